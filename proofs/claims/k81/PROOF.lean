import PyProof.Rows.All
import Wide.All
import OpenK.AllK
import Wide.FinOn
import HandS.CallSlots
import HandS.Conv
import HandS.Deep
import HandS.Dict
import HandS.Ends
import HandS.ExcInit
import HandS.ExcOwn
import HandS.ExcValue
import HandS.Flow
import HandS.ForExc
import HandS.ForMost
import HandS.IsInst
import HandS.ListItems
import HandS.More
import HandS.RaiseMore
import HandS.Replace
import HandS.SetFor
import HandS.Small
import HandS.Sort
import HandS.SortInts
import HandS.StrMore
import HandS.Strs
import HandS.Style
import HandS.Text
import HandS.TryOnly
import HandS.TupAny
import HandS.TupLe
import HandS.Walk
import HandS.Wide
import HandS.Zip
import KE.BitLaws
import KE.DataFind
import KE.DataMinMax
import KE.GoesMore
import KE.IntTextLaws
import KE.KDictPairs
import KE.KDictZip
import KE.KExcIs
import KE.KItemsList
import KE.SortData
import PyProof.CallStr
import PyProof.ListIndex
import PyProof.ReprLen
import PyProof.ReprRoads
import PyProof.Rows.IntBool
import PyProof.Rows.StrCase
import PyProof.Rows.StrCut
import PyProof.Rows.StrFit
import PyProof.StrBlock2
import PySem.Challenge.RW_oddlong_k81_sheets_spoilt_anywhere
set_option Elab.async false
set_option linter.all false
set_option maxRecDepth 100000
set_option maxHeartbeats 4000000
namespace Od
open PySem PySem.Spec L2
open PyProof.Rows hiding St
/-! ### data -/
abbrev Tx := List Nat
def sT (s : Tx) : Str := ⟨s.toArray⟩
theorem sT_inj {a b : Tx} (h : sT a = sT b) : a = b := by
  have := congrArg (fun s : Str => s.cps.toList) h
  simpa [sT] using this
theorem sT_cps (a : Tx) : (sT a).cps.toList = a := by simp [sT]
theorem sT_len (a : Tx) : (sT a).length = a.length := by simp [sT, Str.length]
theorem sT_of (x : Str) : sT x.cps.toList = x := by cases x; simp [sT]
theorem sT_app (a b : Tx) : sT a ++ sT b = sT (a ++ b) := by
  show Str.append _ _ = _
  simp [sT, Str.append]
abbrev DK := Sum Int Tx
def kK : DK → Key
  | .inl i => .inl i
  | .inr s => .inr (sT s)
theorem kK_inj {a b : DK} (h : kK a = kK b) : a = b := by
  cases a <;> cases b <;> simp [kK] at h
  · rw [h]
  · rw [sT_inj h]
inductive D where
  | non | bl (b : Bool) | int (i : Int) | str (s : Tx) | tup (xs : List D) | lst (xs : List D) | rol (xs : List D) | dct (ks : List DK) (vs : List D) | exn (c : Tx) (ks : List Tx) (vs : List D) | obj (c : Tx) (ks : List Tx) (vs : List D)
  -- a tuple whose object is known to the letter (made by tuple(..); what dict(..) of a tuple asks)
  | fn (xs : List D)
/-- an exception object of the class c, its dict at d -/
def ExnO (a : Addr) (c : Value) (d : Option Addr) : HO := .ext fun h => ∃ (oe : Obj) (us : Array Value), h.get? a = some oe ∧ Zc c d oe ∧ oe.data = .fields us
/-- what the program's top calls x -/
def Top (K : PySem.W.Frag) (x : Tx) (a : Addr) : Prop := PySem.W.nsIn K mainGlobals (sT x) = some (some (.ref a))
section
variable (K : PySem.W.Frag) (P : Hp)
mutual
def Den : D → V → Prop
  | .non, v => v = .non
  | .bl b, v => v = .bl b
  | .int i, v => v = .int i
  | .str s, v => v = .str (sT s)
  | .tup ds, v => ∃ a vs, v = .ref a ∧ SqT K P a vs ∧ DenL ds vs
  | .lst ds, v => ∃ a vs, v = .ref a ∧ P a = some (.lst vs) ∧ DenL ds vs
  | .rol ds, v => ∃ a vs, v = .ref a ∧ SqL K P a vs ∧ DenL ds vs
  | .dct ks ds, v => ∃ a ws, v = .ref a ∧ P a = some (.dK ws) ∧ ws.map Prod.fst = ks.map kK ∧ DenL ds (ws.map Prod.snd)
  | .exn c ks ds, v => ∃ a C d ws, v = .ref a ∧ Top K c C ∧ P a = some (ExnO a (.ref C) d) ∧ ws.map Prod.fst = ks.map sT ∧ ((d = none ∧ ws = []) ∨ ∃ dd, d = some dd ∧ P dd = some (.xd ws)) ∧ DenL ds (ws.map Prod.snd)
  | .obj c ks ds, v => ∃ a C dx ws, v = .ref a ∧ Top K c C ∧ P a = some (.ins C dx ws) ∧ ws.map Prod.fst = ks.map sT ∧ DenL ds (ws.map Prod.snd)
  | .fn ds, v => ∃ a vs, v = .ref a ∧ (∃ o, P a = some (.frz o (.tup vs)) ∧ o.dict = none) ∧ DenL ds vs
def DenL : List D → List V → Prop
  | [], vs => vs = []
  | d :: ds, vs => ∃ v r, vs = v :: r ∧ Den d v ∧ DenL ds r
end
end
/-- what a variable holds: shared data, or an object that it alone owns -/
inductive T1 where
  | sh (d : D) | lst (ds : List D) | dct (ks : List DK) (vs : List D)
inductive T where
  | sh (d : D) | lst (ds : List D) | dct (ks : List DK) (vs : List D) | rcd (fs : List (Tx × T1)) | ins (C : Tx) (fs : List (Tx × T1)) | seq (b : Bool) (ts : List T1)
abbrev Env := List (Option T)
structure Exn where
  cls : Tx
  fs : List (Tx × D)
inductive Res (α : Type) where
  | ok (a : α) | exc (x : Exn) (ρ : Env) | fail
def Res.bind {α β : Type} : Res α → (α → Res β) → Res β
  | .ok a, f => f a
  | .exc x ρ, _ => .exc x ρ
  | .fail, _ => .fail
instance : Monad Res where
  pure := .ok
  bind := Res.bind
theorem ok_bind {α β : Type} (a : α) (f : α → Res β) : (Res.ok a >>= f) = f a := rfl
def Res.of {α : Type} : Option α → Res α
  | some a => .ok a
  | none => .fail
/-! ### the heap behind -/
def sqO (b : Bool) (vs : List V) : HO := if b then .tup vs else .lst vs
/-- who owns an address: a slot (none: the value in hand), a field -/
abbrev Own := Addr → Option (Option Nat × Option Tx)
section
variable (K : PySem.W.Frag) (mg : Str → Option Value) (P : Hp) (W : Own) (H : Hp) (r : Option Nat)
def R1 (f : Option Tx) : T1 → V → Prop
  | .sh d, v => Den K P d v
  | .lst ds, v => ∃ a vs, v = .ref a ∧ W a = some (r, f) ∧ H a = some (.lst vs) ∧ DenL K P ds vs
  | .dct ks ds, v => ∃ a ws, v = .ref a ∧ W a = some (r, f) ∧ H a = some (.dK ws) ∧ ws.map Prod.fst = ks.map kK ∧ DenL K P ds (ws.map Prod.snd)
def RF : List (Tx × T1) → List (Str × V) → Prop
  | [], ws => ws = []
  | (k, t) :: fs, ws => ∃ v w, ws = (sT k, v) :: w ∧ R1 K P W H r (some k) t v ∧ RF fs w
def RI : Nat → List T1 → List V → Prop
  | _, [], vs => vs = []
  | n, t :: ts, vs => ∃ v w, vs = v :: w ∧ R1 K P W H r (some [n]) t v ∧ RI (n + 1) ts w
def RT : T → V → Prop
  | .sh d, v => Den K P d v
  | .lst ds, v => R1 K P W H r none (.lst ds) v
  | .dct ks ds, v => R1 K P W H r none (.dct ks ds) v
  | .rcd fs, v => ∃ a ws, v = .ref a ∧ W a = some (r, none) ∧ H a = some (.dK (ws.map fun p => (.inr p.1, p.2))) ∧ (fs.map Prod.fst).Nodup ∧ RF K P W H r fs ws
  | .ins C fs, v => ∃ a c dx ws, v = .ref a ∧ W a = some (r, none) ∧ (mg (sT C) = some (.ref c) ∧ Top K C c) ∧ H a = some (.ins c dx ws) ∧ (fs.map Prod.fst).Nodup ∧ RF K P W H r fs ws
  | .seq b ts, v => ∃ a vs, v = .ref a ∧ W a = some (r, none) ∧ H a = some (sqO b vs) ∧ RI K P W H r 0 ts vs
end
structure Wd (K : PySem.W.Frag) (mg : Str → Option Value) (P : Hp) (W : Own) (H : Hp) (σ : St) (ρ : Env) : Prop where
  same : Same P H
  own : ∀ a r, W a = some r → P a = none ∧ ∃ o, H a = some o
  env : ∀ (i : Nat) (t : T), ρ[i]? = some (some t) → ∃ v, σ[i]? = some (some v) ∧ RT K mg P W H (some i) t v
  len : ρ.length ≤ σ.length
def Step (P : Hp) (W : Own) (H P' : Hp) (W' : Own) (H' : Hp) : Prop := Same P P' ∧ ∀ a o, H a = some o → W a = none → H' a = some o ∧ W' a = none ∧ P' a = P a
/-- only new objects -/
def Al (P H P' H' : Hp) : Prop := Same H H' ∧ Same P P' ∧ Same P' H' ∧ ∀ a o, H a = some o → P' a = P a
theorem same_refl (H : Hp) : Same H H := fun _ _ h => h
theorem same_trans {A B C : Hp} (h : Same A B) (g : Same B C) : Same A C := fun a o e => g a o (h a o e)
theorem same_none {A B : Hp} (h : Same A B) {a : Addr} (e : B a = none) : A a = none := by
  cases q : A a with
  | none => rfl
  | some o => rw [h a o q] at e; cases e
theorem Step.refl (P : Hp) (W : Own) (H : Hp) : Step P W H P W H := ⟨same_refl P, fun _ _ h w => ⟨h, w, rfl⟩⟩
theorem Step.trans {P P1 P2 H H1 H2 : Hp} {W W1 W2 : Own} (a : Step P W H P1 W1 H1) (b : Step P1 W1 H1 P2 W2 H2) : Step P W H P2 W2 H2 :=
  ⟨same_trans a.1 b.1, fun x o h w => by
    obtain ⟨h1, w1, p1⟩ := a.2 x o h w
    obtain ⟨h2, w2, p2⟩ := b.2 x o h1 w1
    exact ⟨h2, w2, p2.trans p1⟩⟩
theorem Al.refl {P H : Hp} (h : Same P H) : Al P H P H := ⟨same_refl H, same_refl P, h, fun _ _ _ => rfl⟩
theorem Al.trans {P P1 P2 H H1 H2 : Hp} (a : Al P H P1 H1) (b : Al P1 H1 P2 H2) : Al P H P2 H2 :=
  ⟨same_trans a.1 b.1, same_trans a.2.1 b.2.1, b.2.2.1, fun x o h => (b.2.2.2 x o (a.1 x o h)).trans (a.2.2.2 x o h)⟩
theorem Al.step {P P1 H H1 : Hp} (a : Al P H P1 H1) (W : Own) : Step P W H P1 W H1 := ⟨a.2.1, fun x o h w => ⟨a.1 x o h, w, a.2.2.2 x o h⟩⟩
/-- a new object, put into the shared part -/
theorem Al.new {P H : Hp} {p : Addr} {o : HO} (s : Same P H) (n : H p = none) : Al P H (upd P p o) (upd H p o) := by
  refine ⟨fun a u e => ?_, fun a u e => ?_, fun a u e => ?_, fun a u e => ?_⟩
  · rw [upd_ne (ne_of_none e n)]; exact e
  · rw [upd_ne (ne_of_none e (same_none s n))]; exact e
  · by_cases h : a = p
    · subst h; rw [upd_same] at e ⊢; exact e
    · rw [upd_ne h] at e ⊢; exact s a u e
  · rw [upd_ne (ne_of_none e n)]
/-- a new object that nobody knows -/
theorem Al.newH {P H : Hp} {p : Addr} {o : HO} (s : Same P H) (n : H p = none) : Al P H P (upd H p o) := by
  refine ⟨fun a u e => ?_, same_refl P, fun a u e => ?_, fun a u e => rfl⟩
  · rw [upd_ne (ne_of_none e n)]; exact e
  · rw [upd_ne (ne_of_none e (same_none s n))]; exact s a u e
section
variable {K : PySem.W.Frag} {mg : Str → Option Value} {P P' H H' : Hp} {W W' : Own} {σ : St} {ρ : Env}
theorem same_rd {a : Addr} {u : HO} (s : Same P P') (h : Rd P a u) : Rd P' a u := by
  rcases h with h | ⟨o, h⟩
  · exact .inl (s a _ h)
  · exact .inr ⟨o, s a _ h⟩
theorem same_l {a : Addr} {xs : List V} (s : Same P P') (h : SqL K P a xs) : SqL K P' a xs := by
  rcases h with h | h
  · exact .inl (same_rd s h)
  · exact .inr h
theorem same_t {a : Addr} {xs : List V} (s : Same P P') (h : SqT K P a xs) : SqT K P' a xs := by
  rcases h with h | h
  · exact .inl (same_rd s h)
  · exact .inr h
mutual
theorem Den.mono (s : Same P P') : ∀ (d : D) (v : V), Den K P d v → Den K P' d v
  | .non, v, h => h
  | .bl b, v, h => h
  | .int i, v, h => h
  | .str x, v, h => h
  | .tup ds, v, h => by
    unfold Den at h ⊢
    obtain ⟨a, vs, e, q, l⟩ := h
    exact ⟨a, vs, e, same_t s q, DenL.mono s ds vs l⟩
  | .lst ds, v, h => by
    unfold Den at h ⊢
    obtain ⟨a, vs, e, q, l⟩ := h
    exact ⟨a, vs, e, s a _ q, DenL.mono s ds vs l⟩
  | .rol ds, v, h => by
    unfold Den at h ⊢
    obtain ⟨a, vs, e, q, l⟩ := h
    exact ⟨a, vs, e, same_l s q, DenL.mono s ds vs l⟩
  | .dct ks ds, v, h => by
    unfold Den at h ⊢
    obtain ⟨a, ws, e, q, k, l⟩ := h
    exact ⟨a, ws, e, s a _ q, k, DenL.mono s ds _ l⟩
  | .exn c ks ds, v, h => by
    unfold Den at h ⊢
    obtain ⟨a, C, d, ws, e, t, q, k, m, l⟩ := h
    exact ⟨a, C, d, ws, e, t, s a _ q, k, m.imp id fun ⟨dd, e, q⟩ => ⟨dd, e, s dd _ q⟩, DenL.mono s ds _ l⟩
  | .obj c ks ds, v, h => by
    unfold Den at h ⊢
    obtain ⟨a, C, dx, ws, e, t, q, k, l⟩ := h
    exact ⟨a, C, dx, ws, e, t, s a _ q, k, DenL.mono s ds _ l⟩
  | .fn ds, v, h => by
    unfold Den at h ⊢
    obtain ⟨a, vs, e, ⟨o, q, n⟩, l⟩ := h
    exact ⟨a, vs, e, ⟨o, s a _ q, n⟩, DenL.mono s ds vs l⟩
theorem DenL.mono (s : Same P P') : ∀ (ds : List D) (vs : List V), DenL K P ds vs → DenL K P' ds vs
  | [], vs, h => h
  | d :: ds, vs, h => by
    unfold DenL at h ⊢
    obtain ⟨v, r, e, h1, h2⟩ := h
    exact ⟨v, r, e, Den.mono s d v h1, DenL.mono s ds r h2⟩
end
theorem DenL.len : ∀ {ds : List D} {vs : List V}, DenL K P ds vs → vs.length = ds.length
  | [], vs, h => by unfold DenL at h; subst h; rfl
  | d :: ds, vs, h => by
    unfold DenL at h
    obtain ⟨v, r, e, h1, h2⟩ := h
    subst e
    simp [h2.len]
theorem DenL.get : ∀ {ds : List D} {vs : List V} {i : Nat} {d : D}, DenL K P ds vs → ds[i]? = some d → ∃ v, vs[i]? = some v ∧ Den K P d v
  | [], vs, i, d, h, e => by simp at e
  | d0 :: ds, vs, i, d, h, e => by
    unfold DenL at h
    obtain ⟨v, r, rfl, h1, h2⟩ := h
    cases i with
    | zero => simp at e; subst e; exact ⟨v, rfl, h1⟩
    | succ i => exact h2.get (by simpa using e)
theorem DenL.get' : ∀ {ds : List D} {vs : List V} {i : Nat} {v : V}, DenL K P ds vs → vs[i]? = some v → ∃ d, ds[i]? = some d ∧ Den K P d v
  | [], vs, i, d, h, e => by unfold DenL at h; subst h; simp at e
  | d0 :: ds, vs, i, d, h, e => by
    unfold DenL at h
    obtain ⟨v, r, rfl, h1, h2⟩ := h
    cases i with
    | zero => simp at e; subst e; exact ⟨d0, rfl, h1⟩
    | succ i => exact h2.get' (by simpa using e)
theorem DenL.nil : DenL K P [] [] := by unfold DenL; rfl
theorem DenL.cons {d : D} {ds : List D} {v : V} {vs : List V} (h : Den K P d v) (t : DenL K P ds vs) : DenL K P (d :: ds) (v :: vs) := by
  unfold DenL; exact ⟨v, vs, rfl, h, t⟩
theorem DenL.append : ∀ {ds es : List D} {vs ws : List V}, DenL K P ds vs → DenL K P es ws → DenL K P (ds ++ es) (vs ++ ws)
  | [], es, vs, ws, h, g => by unfold DenL at h; subst h; exact g
  | d :: ds, es, vs, ws, h, g => by
    unfold DenL at h
    obtain ⟨v, r, rfl, h1, h2⟩ := h
    exact DenL.cons h1 (DenL.append h2 g)
theorem DenL.take : ∀ {ds : List D} {vs : List V} (n : Nat), DenL K P ds vs → DenL K P (ds.take n) (vs.take n)
  | [], vs, n, h => by unfold DenL at h; subst h; simpa using DenL.nil
  | d :: ds, vs, n, h => by
    unfold DenL at h
    obtain ⟨v, r, rfl, h1, h2⟩ := h
    cases n with
    | zero => exact DenL.nil
    | succ n => exact DenL.cons h1 (DenL.take n h2)
theorem DenL.drop : ∀ {ds : List D} {vs : List V} (n : Nat), DenL K P ds vs → DenL K P (ds.drop n) (vs.drop n)
  | [], vs, n, h => by unfold DenL at h; subst h; simpa using DenL.nil
  | d :: ds, vs, n, h => by
    unfold DenL at h
    obtain ⟨v, r, rfl, h1, h2⟩ := h
    cases n with
    | zero => exact DenL.cons h1 h2
    | succ n => exact DenL.drop n h2
theorem DenL.reverse : ∀ {ds : List D} {vs : List V}, DenL K P ds vs → DenL K P ds.reverse vs.reverse
  | [], vs, h => by unfold DenL at h; subst h; exact DenL.nil
  | d :: ds, vs, h => by
    unfold DenL at h
    obtain ⟨v, r, rfl, h1, h2⟩ := h
    simp only [List.reverse_cons]
    exact DenL.append (DenL.reverse h2) (DenL.cons h1 DenL.nil)
theorem DenL.set : ∀ {ds : List D} {vs : List V} {d : D} {v : V} (i : Nat), DenL K P ds vs → Den K P d v → DenL K P (ds.set i d) (vs.set i v)
  | [], vs, d, v, i, h, g => by unfold DenL at h; subst h; simpa using DenL.nil
  | d0 :: ds, vs, d, v, i, h, g => by
    unfold DenL at h
    obtain ⟨v0, r, rfl, h1, h2⟩ := h
    cases i with
    | zero => exact DenL.cons g h2
    | succ i => exact DenL.cons h1 (DenL.set i h2 g)
theorem DenL.ints : ∀ {ns : List Int} {vs : List V}, DenL K P (ns.map D.int) vs → vs = ns.map V.int
  | [], vs, h => by simpa [DenL] using h
  | n :: ns, vs, h => by
    simp only [List.map_cons] at h
    unfold DenL at h
    obtain ⟨v, r, rfl, h1, h2⟩ := h
    unfold Den at h1
    rw [h1, h2.ints]; rfl
theorem DenL.strs : ∀ {ns : List Tx} {vs : List V}, DenL K P (ns.map D.str) vs → vs = (ns.map sT).map V.str
  | [], vs, h => by simpa [DenL] using h
  | n :: ns, vs, h => by
    simp only [List.map_cons] at h
    unfold DenL at h
    obtain ⟨v, r, rfl, h1, h2⟩ := h
    unfold Den at h1
    rw [h1, h2.strs]; rfl
theorem DenL.of_ints : ∀ (ns : List Int), DenL K P (ns.map D.int) (ns.map V.int)
  | [] => DenL.nil
  | n :: ns => DenL.cons (by unfold Den; rfl) (DenL.of_ints ns)
theorem DenL.of_strs : ∀ (ns : List Tx), DenL K P (ns.map D.str) ((ns.map sT).map V.str)
  | [] => DenL.nil
  | n :: ns => DenL.cons (by unfold Den; rfl) (DenL.of_strs ns)
theorem R1.mono {r r' : Option Nat} {f : Option Tx} (s : Same P P') (w : ∀ a, W a = some (r, f) → W' a = some (r', f) ∧ ∀ o, H a = some o → H' a = some o) : ∀ (t : T1) (v : V), R1 K P W H r f t v → R1 K P' W' H' r' f t v
  | .sh d, v, h => Den.mono s d v h
  | .lst ds, v, h => by
    obtain ⟨a, vs, e, hw, hh, l⟩ := h
    exact ⟨a, vs, e, (w a hw).1, (w a hw).2 _ hh, DenL.mono s ds vs l⟩
  | .dct ks ds, v, h => by
    obtain ⟨a, ws, e, hw, hh, k, l⟩ := h
    exact ⟨a, ws, e, (w a hw).1, (w a hw).2 _ hh, k, DenL.mono s ds _ l⟩
theorem RF.mono {r r' : Option Nat} (s : Same P P') (w : ∀ f a, W a = some (r, some f) → W' a = some (r', some f) ∧ ∀ o, H a = some o → H' a = some o) : ∀ (fs : List (Tx × T1)) (ws : List (Str × V)), RF K P W H r fs ws → RF K P' W' H' r' fs ws
  | [], ws, h => h
  | (k, t) :: fs, ws, h => by
    obtain ⟨v, q, e, h1, h2⟩ := h
    exact ⟨v, q, e, R1.mono s (w k) t v h1, RF.mono s w fs q h2⟩
theorem RI.mono {r r' : Option Nat} (s : Same P P') (w : ∀ f a, W a = some (r, some f) → W' a = some (r', some f) ∧ ∀ o, H a = some o → H' a = some o) : ∀ (n : Nat) (ts : List T1) (vs : List V), RI K P W H r n ts vs → RI K P' W' H' r' n ts vs
  | _, [], vs, h => h
  | n, t :: ts, vs, h => by
    obtain ⟨v, q, e, h1, h2⟩ := h
    exact ⟨v, q, e, R1.mono s (w [n]) t v h1, RI.mono s w (n + 1) ts q h2⟩
theorem RT.mono {r r' : Option Nat} (s : Same P P') (w : ∀ f a, W a = some (r, f) → W' a = some (r', f) ∧ ∀ o, H a = some o → H' a = some o) : ∀ (t : T) (v : V), RT K mg P W H r t v → RT K mg P' W' H' r' t v
  | .sh d, v, h => Den.mono s d v h
  | .lst ds, v, h => R1.mono s (w none) (.lst ds) v h
  | .dct ks ds, v, h => R1.mono s (w none) (.dct ks ds) v h
  | .rcd fs, v, h => by
    obtain ⟨a, ws, e, hw, hh, nd, l⟩ := h
    exact ⟨a, ws, e, (w none a hw).1, (w none a hw).2 _ hh, nd, RF.mono s (fun f => w (some f)) fs ws l⟩
  | .ins C fs, v, h => by
    obtain ⟨a, c, dx, ws, e, hw, hc, hh, nd, l⟩ := h
    exact ⟨a, c, dx, ws, e, (w none a hw).1, hc, (w none a hw).2 _ hh, nd, RF.mono s (fun f => w (some f)) fs ws l⟩
  | .seq b ts, v, h => by
    obtain ⟨a, vs, e, hw, hh, l⟩ := h
    exact ⟨a, vs, e, (w none a hw).1, (w none a hw).2 _ hh, RI.mono s (fun f => w (some f)) 0 ts vs l⟩
theorem Wd.al (w : Wd K mg P W H σ ρ) (a : Al P H P' H') : Wd K mg P' W H' σ ρ := by
  refine ⟨a.2.2.1, fun x r e => ?_, fun i t e => ?_, w.len⟩
  · obtain ⟨p, o, h⟩ := w.own x r e
    exact ⟨(a.2.2.2 x o h).trans p, o, a.1 x o h⟩
  · obtain ⟨v, hs, hr⟩ := w.env i t e
    exact ⟨v, hs, RT.mono a.2.1 (fun f x e => ⟨e, fun o h => a.1 x o h⟩) t v hr⟩
end
/-! ### what code gives -/
section
variable (K : PySem.W.Frag) (mg : Str → Option Value)
def XR (P H : Hp) (x : Exn) (c : Value) (od : Option Addr) : Prop :=
  ∃ C, mg (sT x.cls) = some (.ref C) ∧ c = .ref C ∧
    ((x.fs = [] ∧ od = none) ∨ ∃ (k : Tx) (d : D) (a : Addr) (v : V), x.fs = [(k, d)] ∧ od = some a ∧ H a = some (.xd [(sT k, v)]) ∧ P a = some (.xd [(sT k, v)]) ∧ Den K P d v)
variable {α β : Type} (E : WX) (Rel : Hp → Own → Hp → St → α → β → Prop)
def Go (r : Res α) (P : Hp) (W : Own) (H : Hp) (σ : St) (Q : β → Hp → Prop) : Prop :=
  match r with
  | .ok a => ∀ v P' W' H', Step P W H P' W' H' → Rel P' W' H' σ a v → Q v H'
  | .exc x ρ' => ∀ c od P' W' H', Step P W H P' W' H' → Wd K mg P' W' H' σ ρ' → XR K mg P' H' x c od → E c od σ H'
  | .fail => False
def rX (F : Env → Res α) : St → Hp → (β → Hp → Prop) → Prop := fun σ H Q => ∃ P W ρ, Wd K mg P W H σ ρ ∧ Go K mg E Rel (F ρ) P W H σ Q
end
section
variable {K : PySem.W.Frag} {mg : Str → Option Value} {α β γ δ : Type} {E : WX} {Rel : Hp → Own → Hp → St → α → γ → Prop} {Rel' : Hp → Own → Hp → St → β → δ → Prop} {P P' H H' : Hp} {W W' : Own} {σ : St} {ρ : Env} {Q Q' : γ → Hp → Prop} {R : δ → Hp → Prop}
theorem Go.mono {r : Res α} (h : Go K mg E Rel r P W H σ Q) (q : ∀ v H', Q v H' → Q' v H') : Go K mg E Rel r P W H σ Q' := by
  cases r with
  | ok a => exact fun v P' W' H' s r => q v H' (h v P' W' H' s r)
  | exc x ρ' => exact h
  | fail => exact h
theorem Go.step {r : Res α} (s : Step P W H P' W' H') (h : Go K mg E Rel r P W H σ Q) : Go K mg E Rel r P' W' H' σ Q := by
  cases r with
  | ok a => exact fun v P2 W2 H2 s2 r => h v P2 W2 H2 (s.trans s2) r
  | exc x ρ' => exact fun c od P2 W2 H2 s2 => h c od P2 W2 H2 (s.trans s2)
  | fail => exact h
theorem Go.bind {r : Res α} {g : α → Res β} (h : Go K mg E Rel' (r >>= g) P W H σ R) :
    Go K mg E Rel r P W H σ (fun v1 H1 => ∃ P1 W1 a, Step P W H P1 W1 H1 ∧ Rel P1 W1 H1 σ a v1 ∧ Go K mg E Rel' (g a) P1 W1 H1 σ R) := by
  cases r with
  | ok a => exact fun v P1 W1 H1 s rel => ⟨P1, W1, a, s, rel, Go.step s h⟩
  | exc x ρ' => exact h
  | fail => exact h
end
/-- results: shared data; an object in hand; a place that is read later -/
inductive Hd where
  | val (d : D) | slot (i : Nat)
section
variable (K : PySem.W.Frag) (mg : Str → Option Value)
def VRel (P : Hp) (W : Own) (H : Hp) (σ : St) (a : D × Env) (v : V) : Prop := Wd K mg P W H σ a.2 ∧ Den K P a.1 v
def TRel (P : Hp) (W : Own) (H : Hp) (σ : St) (a : T × Env) (v : V) : Prop := Wd K mg P W H σ a.2 ∧ RT K mg P W H none a.1 v
def Hok (P : Hp) (σ : St) : Hd → V → Prop
  | .val d, v => Den K P d v
  | .slot i, v => σ[i]? = some (some v)
def HRel (P : Hp) (W : Own) (H : Hp) (σ : St) (a : Hd × Env) (v : V) : Prop := Wd K mg P W H σ a.2 ∧ Hok K P σ a.1 v
end
abbrev EM := Env → Res (D × Env)
abbrev OM := Env → Res (T × Env)
abbrev HM := Env → Res (Hd × Env)
abbrev BM := Env → Res (Bool × Env)
def EV (X : Cx) (E : WX) (e : Expr) (F : EM) : Prop := PE X e (rX X.K X.mg E (VRel X.K X.mg) F)
def ET (X : Cx) (E : WX) (e : Expr) (F : OM) : Prop := PE X e (rX X.K X.mg E (TRel X.K X.mg) F)
def EH (X : Cx) (E : WX) (e : Expr) (F : HM) : Prop := PE X e (rX X.K X.mg E (HRel X.K X.mg) F)
/-- a test -/
def GoB (K : PySem.W.Frag) (mg : Str → Option Value) (E : WX) (r : Res (Bool × Env)) (P : Hp) (W : Own) (H : Hp) (σ : St) (Q : Bool → Hp → Prop) : Prop :=
  match r with
  | .ok (b, ρ') => ∀ P' W' H', Step P W H P' W' H' → Wd K mg P' W' H' σ ρ' → Q b H'
  | .exc x ρ' => ∀ c od P' W' H', Step P W H P' W' H' → Wd K mg P' W' H' σ ρ' → XR K mg P' H' x c od → E c od σ H'
  | .fail => False
def rB (K : PySem.W.Frag) (mg : Str → Option Value) (E : WX) (F : BM) : TT := fun σ H Q => ∃ P W ρ, Wd K mg P W H σ ρ ∧ GoB K mg E (F ρ) P W H σ Q
def EB (X : Cx) (E : WX) (e : Expr) (F : BM) : Prop := PT X e (rB X.K X.mg E F)
section
variable {K : PySem.W.Frag} {mg : Str → Option Value} {α γ : Type} {E : WX} {Rel : Hp → Own → Hp → St → α → γ → Prop} {P P' H H' : Hp} {W W' : Own} {σ : St} {ρ : Env} {Q Q' : Bool → Hp → Prop} {QV : γ → Hp → Prop}
theorem GoB.mono {r : Res (Bool × Env)} (h : GoB K mg E r P W H σ Q) (q : ∀ v H', Q v H' → Q' v H') : GoB K mg E r P W H σ Q' := by
  cases r with
  | ok a => exact fun P' W' H' s r => q a.1 H' (h P' W' H' s r)
  | exc x ρ' => exact h
  | fail => exact h
theorem GoB.step {r : Res (Bool × Env)} (s : Step P W H P' W' H') (h : GoB K mg E r P W H σ Q) : GoB K mg E r P' W' H' σ Q := by
  cases r with
  | ok a => exact fun P2 W2 H2 s2 r => h P2 W2 H2 (s.trans s2) r
  | exc x ρ' => exact fun c od P2 W2 H2 s2 => h c od P2 W2 H2 (s.trans s2)
  | fail => exact h
/-- a value, then a test -/
theorem Go.bindB {r : Res α} {g : α → Res (Bool × Env)} (h : GoB K mg E (r >>= g) P W H σ Q) :
    Go K mg E Rel r P W H σ (fun v1 H1 => ∃ P1 W1 a, Step P W H P1 W1 H1 ∧ Rel P1 W1 H1 σ a v1 ∧ GoB K mg E (g a) P1 W1 H1 σ Q) := by
  cases r with
  | ok a => exact fun v P1 W1 H1 s rel => ⟨P1, W1, a, s, rel, GoB.step s h⟩
  | exc x ρ' => exact h
  | fail => exact h
/-- a test, then a value -/
theorem GoB.bind {r : Res (Bool × Env)} {g : Bool × Env → Res α} (h : Go K mg E Rel (r >>= g) P W H σ QV) :
    GoB K mg E r P W H σ (fun b H1 => ∃ P1 W1 ρ1, Step P W H P1 W1 H1 ∧ Wd K mg P1 W1 H1 σ ρ1 ∧ Go K mg E Rel (g (b, ρ1)) P1 W1 H1 σ QV) := by
  cases r with
  | ok a => exact fun P1 W1 H1 s wd => ⟨P1, W1, a.2, s, wd, Go.step s h⟩
  | exc x ρ' => exact h
  | fail => exact h
theorem GoB.bindB {r : Res (Bool × Env)} {g : Bool × Env → Res (Bool × Env)} (h : GoB K mg E (r >>= g) P W H σ Q) :
    GoB K mg E r P W H σ (fun b H1 => ∃ P1 W1 ρ1, Step P W H P1 W1 H1 ∧ Wd K mg P1 W1 H1 σ ρ1 ∧ GoB K mg E (g (b, ρ1)) P1 W1 H1 σ Q) := by
  cases r with
  | ok a => exact fun P1 W1 H1 s wd => ⟨P1, W1, a.2, s, wd, GoB.step s h⟩
  | exc x ρ' => exact h
  | fail => exact h
end
theorem PE.imp {X : Cx} {e : Expr} {t t' : TE} (h : PE X e t) (q : ∀ σ H Q, t' σ H Q → t σ H Q) : PE X e t' := ⟨fun pins s σ H Q I hq => h.run pins s σ H Q I (q σ H Q hq)⟩
theorem PT.imp {X : Cx} {e : Expr} {t t' : TT} (h : PT X e t) (q : ∀ σ H Q, t' σ H Q → t σ H Q) : PT X e t' := ⟨fun pins s σ H Q I hq => h.run pins s σ H Q I (q σ H Q hq)⟩
theorem PA.imp {X : Cx} {e : List Expr} {t t' : TA} (h : PA X e t) (q : ∀ σ H Q, t' σ H Q → t σ H Q) : PA X e t' := ⟨fun pos pins s σ H Q I hq => h.run pos pins s σ H Q I (q σ H Q hq)⟩
theorem PS.imp {X : Cx} {e : Stmt} {t t' : TS} (h : PS X e t) (q : ∀ D σ H, t' D σ H → t D σ H) : PS X e t' := ⟨fun pins s σ H D I hq => h.run pins s σ H D I (q D σ H hq)⟩
theorem PSs.imp {X : Cx} {e : List Stmt} {t t' : TS} (h : PSs X e t) (q : ∀ D σ H, t' D σ H → t D σ H) : PSs X e t' := ⟨fun pins s σ H D I hq => h.run pins s σ H D I (q D σ H hq)⟩
/-! ### what stands at a place now -/
def slotD : Option (Option T) → Option D
  | some (some (.sh d)) => some d
  | some (some (.lst ds)) => some (.lst ds)
  | some (some (.dct ks ds)) => some (.dct ks ds)
  | _ => none
def getH (h : Hd) (ρ : Env) : Option D :=
  match h with
  | .val d => some d
  | .slot i => slotD ρ[i]?
def View (K : PySem.W.Frag) (P H : Hp) : D → V → Prop
  | .lst ds, v => ∃ a vs, v = .ref a ∧ H a = some (.lst vs) ∧ DenL K P ds vs
  | .dct ks ds, v => ∃ a ws, v = .ref a ∧ H a = some (.dK ws) ∧ ws.map Prod.fst = ks.map kK ∧ DenL K P ds (ws.map Prod.snd)
  | d, v => Den K P d v
section
variable {K : PySem.W.Frag} {mg : Str → Option Value} {P P' H H' : Hp} {W W' : Own} {σ : St} {ρ : Env}
theorem Den.view {d : D} {v : V} (s : Same P H) (h : Den K P d v) : View K P H d v := by
  cases d with
  | lst ds =>
    unfold Den at h
    obtain ⟨a, vs, e, q, l⟩ := h
    exact ⟨a, vs, e, s a _ q, l⟩
  | dct ks ds =>
    unfold Den at h
    obtain ⟨a, ws, e, q, k, l⟩ := h
    exact ⟨a, ws, e, s a _ q, k, l⟩
  | _ => exact h
theorem Hok.step {h : Hd} {v : V} (s : Same P P') (q : Hok K P σ h v) : Hok K P' σ h v := by
  cases h with
  | val d => exact Den.mono s d v q
  | slot i => exact q
theorem Hok.view {h : Hd} {v : V} {d : D} (w : Wd K mg P W H σ ρ) (q : Hok K P σ h v) (g : getH h ρ = some d) : View K P H d v := by
  cases h with
  | val d' =>
    have : d' = d := Option.some.inj g
    subst this
    exact Den.view w.same q
  | slot i =>
    have g : slotD ρ[i]? = some d := g
    have q : σ[i]? = some (some v) := q
    cases e : ρ[i]? with
    | none => rw [e] at g; cases g
    | some o =>
      cases o with
      | none => rw [e] at g; cases g
      | some t =>
        obtain ⟨v', hs, hr⟩ := w.env i t e
        rw [q] at hs
        cases hs
        rw [e] at g
        cases t with
        | sh d' => cases g; exact Den.view w.same hr
        | lst ds => cases g; obtain ⟨a, vs, e, hw, hh, l⟩ := hr; exact ⟨a, vs, e, hh, l⟩
        | dct ks ds => cases g; obtain ⟨a, ws, e, hw, hh, k, l⟩ := hr; exact ⟨a, ws, e, hh, k, l⟩
        | rcd fs => cases g
        | ins C fs => cases g
        | seq b ts => cases g
end
end Od
namespace Od
open PySem PySem.Spec L2
open PyProof.Rows hiding St
/-! ### new objects, frozen objects -/
def ownNew (W : Own) (p : Addr) (f : Option Tx) : Own := fun a => if a = p then some (none, f) else W a
def ownOff (W : Own) (p : Addr) : Own := fun a => if a = p then none else W a
section
variable {K : PySem.W.Frag} {mg : Str → Option Value} {P P' H H' : Hp} {W W' : Own} {σ : St} {ρ : Env}
theorem Wd.newT {o : HO} {p : Addr} (w : Wd K mg P W H σ ρ) (n : H p = none) : Wd K mg P (ownNew W p none) (upd H p o) σ ρ ∧ Step P W H P (ownNew W p none) (upd H p o) := by
  have wp : W p = none := by
    cases e : W p with
    | none => rfl
    | some r => obtain ⟨_, u, h⟩ := w.own p r e; rw [n] at h; cases h
  refine ⟨⟨(Al.newH (o := o) w.same n).2.2.1, fun a r e => ?_, fun i t e => ?_, w.len⟩, same_refl P, fun a u h wa => ?_⟩
  · unfold ownNew at e
    by_cases h : a = p
    · subst h; exact ⟨same_none w.same n, _, upd_same⟩
    · rw [if_neg h] at e
      obtain ⟨h1, u, h2⟩ := w.own a r e
      exact ⟨h1, u, by rw [upd_ne h]; exact h2⟩
  · obtain ⟨v, hs, hr⟩ := w.env i t e
    refine ⟨v, hs, RT.mono (same_refl P) (fun f x ex => ?_) t v hr⟩
    have hx : x ≠ p := fun z => by subst z; rw [wp] at ex; cases ex
    exact ⟨by unfold ownNew; rw [if_neg hx]; exact ex, fun o h => by rw [upd_ne hx]; exact h⟩
  · have ha : a ≠ p := ne_of_none h n
    exact ⟨by rw [upd_ne ha]; exact h, by unfold ownNew; rw [if_neg ha]; exact wa, rfl⟩
/-- an object of a role goes into the shared part -/
theorem Wd.frz {o : HO} {p : Addr} {r : Option Nat} {ρ' : Env} (w : Wd K mg P W H σ ρ) (hw : W p = some (r, none)) (hh : H p = some o)
    (hln : ρ'.length = ρ.length)
    (hρ : ∀ (i : Nat) (t : T), ρ'[i]? = some (some t) → ρ[i]? = some (some t) ∧ some i ≠ r ∨ ∃ v, σ[i]? = some (some v) ∧ RT K mg (upd P p o) (ownOff W p) H (some i) t v) :
    Wd K mg (upd P p o) (ownOff W p) H σ ρ' ∧ Step P W H (upd P p o) (ownOff W p) H := by
  have pp := (w.own p _ hw).1
  have sm : Same P (upd P p o) := fun a u e => by rw [upd_ne (ne_of_none e pp)]; exact e
  refine ⟨⟨fun a u e => ?_, fun a r' e => ?_, fun i t e => ?_, by rw [hln]; exact w.len⟩, sm, fun a u h wa => ?_⟩
  · by_cases h : a = p
    · subst h; rw [upd_same] at e; cases e; exact hh
    · rw [upd_ne h] at e; exact w.same a u e
  · unfold ownOff at e
    by_cases h : a = p
    · rw [if_pos h] at e; cases e
    · rw [if_neg h] at e
      obtain ⟨h1, h2⟩ := w.own a r' e
      exact ⟨by rw [upd_ne h]; exact h1, h2⟩
  · rcases hρ i t e with ⟨e1, ne⟩ | h
    · obtain ⟨v, hs, hr⟩ := w.env i t e1
      refine ⟨v, hs, RT.mono sm (fun f x ex => ⟨?_, fun _ h => h⟩) t v hr⟩
      have hx : x ≠ p := fun z => by subst z; rw [hw] at ex; cases ex; exact ne rfl
      unfold ownOff; rw [if_neg hx]; exact ex
    · exact h
  · have ha : a ≠ p := fun z => by subst z; rw [hw] at wa; cases wa
    exact ⟨h, by unfold ownOff; rw [if_neg ha]; exact wa, by rw [upd_ne ha]⟩
end
/-- all of a role goes into the shared part -/
noncomputable def frzP (P H : Hp) (W : Own) (r : Option Nat) : Hp := fun a => match W a with
  | some (r', _) => if r' = r then H a else P a
  | none => P a
noncomputable def offW (W : Own) (r : Option Nat) : Own := fun a => match W a with
  | some (r', f) => if r' = r then none else some (r', f)
  | none => none
section
variable {K : PySem.W.Frag} {mg : Str → Option Value} {P P' H H' : Hp} {W W' : Own} {σ : St} {ρ : Env}
theorem frzP_at {r : Option Nat} {a : Addr} {f : Option Tx} (h : W a = some (r, f)) : frzP P H W r a = H a := by
  unfold frzP; rw [h]; simp
theorem Wd.frzS (w : Wd K mg P W H σ ρ) (r : Option Nat) : Same P (frzP P H W r) := fun a u e => by
  unfold frzP
  cases h : W a with
  | none => exact e
  | some q => have := (w.own a q h).1; rw [e] at this; cases this
theorem Wd.frzA {r : Option Nat} {ρ' : Env} (w : Wd K mg P W H σ ρ) (hln : ρ'.length = ρ.length)
    (hρ : ∀ (i : Nat) (t : T), ρ'[i]? = some (some t) → ρ[i]? = some (some t) ∧ some i ≠ r ∨ ∃ v, σ[i]? = some (some v) ∧ RT K mg (frzP P H W r) (offW W r) H (some i) t v) :
    Wd K mg (frzP P H W r) (offW W r) H σ ρ' ∧ Step P W H (frzP P H W r) (offW W r) H := by
  have sm := w.frzS r
  refine ⟨⟨fun a u e => ?_, fun a r' e => ?_, fun i t e => ?_, by rw [hln]; exact w.len⟩, sm, fun a u h wa => ?_⟩
  · unfold frzP at e
    split at e
    · split at e
      · exact e
      · exact w.same a u e
    · exact w.same a u e
  · unfold offW at e
    split at e
    · rename_i q f hq
      split at e
      · cases e
      · rename_i hne
        obtain ⟨h1, h2⟩ := w.own a _ hq
        refine ⟨?_, h2⟩
        unfold frzP
        rw [hq]
        simp only [if_neg hne]
        exact h1
    · cases e
  · rcases hρ i t e with ⟨e1, ne⟩ | h
    · obtain ⟨v, hs, hr⟩ := w.env i t e1
      refine ⟨v, hs, RT.mono sm (fun f x ex => ⟨?_, fun _ h => h⟩) t v hr⟩
      unfold offW
      rw [ex]
      simp only [if_neg ne]
    · exact h
  · refine ⟨h, by unfold offW; rw [wa], by unfold frzP; rw [wa]⟩
end
/-- an instance's parts, all shared -/
def shs : List (Tx × T1) → Option (List Tx × List D)
  | [] => some ([], [])
  | (k, .sh d) :: fs => (shs fs).map fun p => (k :: p.1, d :: p.2)
  | _ => none
def d1 : T1 → D
  | .sh d => d
  | .lst ds => .lst ds
  | .dct ks ds => .dct ks ds
def frzT : T → Option D
  | .sh d => some d
  | .lst ds => some (.lst ds)
  | .dct ks ds => some (.dct ks ds)
  | .ins C fs => (shs fs).map fun p => .obj C p.1 p.2
  | .seq b ts => some (if b then .tup (ts.map d1) else .lst (ts.map d1))
  | _ => none
section
variable {K : PySem.W.Frag} {mg : Str → Option Value} {P P' H H' : Hp} {W W' : Own} {σ : St} {ρ : Env}
theorem RF.shs {r : Option Nat} : ∀ {fs : List (Tx × T1)} {ws : List (Str × V)} {p : List Tx × List D}, RF K P W H r fs ws → shs fs = some p → ws.map Prod.fst = p.1.map sT ∧ DenL K P p.2 (ws.map Prod.snd)
  | [], ws, p, h, e => by
    cases h
    cases (show some ([], []) = some p from e)
    exact ⟨rfl, DenL.nil⟩
  | (k, .sh d) :: fs, ws, p, h, e => by
    obtain ⟨v, w, rfl, h1, h2⟩ := h
    obtain ⟨q, hq, rfl⟩ := Option.map_eq_some_iff.mp (show (Od.shs fs).map (fun p => (k :: p.1, d :: p.2)) = some p from e)
    obtain ⟨a, b⟩ := RF.shs h2 hq
    exact ⟨by simp [a], DenL.cons h1 b⟩
  | (k, .lst ds) :: fs, ws, p, h, e => by cases (show (none : Option (List Tx × List D)) = some p from e)
  | (k, .dct ks ds) :: fs, ws, p, h, e => by cases (show (none : Option (List Tx × List D)) = some p from e)
theorem R1.den {r : Option Nat} {f : Option Tx} {t : T1} {v : V} (s : Same P P') (hp : ∀ a f, W a = some (r, f) → P' a = H a) (h : R1 K P W H r f t v) : Den K P' (d1 t) v := by
  cases t with
  | sh d => exact Den.mono s d v h
  | lst ds =>
    obtain ⟨a, vs, e, hw, hh, l⟩ := h
    show Den K P' (.lst ds) v
    unfold Den
    exact ⟨a, vs, e, by rw [hp a f hw]; exact hh, DenL.mono s ds vs l⟩
  | dct ks ds =>
    obtain ⟨a, ws, e, hw, hh, k, l⟩ := h
    show Den K P' (.dct ks ds) v
    unfold Den
    exact ⟨a, ws, e, by rw [hp a f hw]; exact hh, k, DenL.mono s ds _ l⟩
theorem RI.den {r : Option Nat} (s : Same P P') (hp : ∀ a f, W a = some (r, f) → P' a = H a) : ∀ {n : Nat} {ts : List T1} {vs : List V}, RI K P W H r n ts vs → DenL K P' (ts.map d1) vs
  | n, [], vs, h => by cases h; exact DenL.nil
  | n, t :: ts, vs, h => by
    obtain ⟨v, q, rfl, h1, h2⟩ := h
    exact DenL.cons (R1.den s hp h1) (RI.den s hp h2)
theorem seq_den {b : Bool} {ds : List D} {vs : List V} {a : Addr} (h : P a = some (sqO b vs)) (l : DenL K P ds vs) : Den K P (if b then .tup ds else .lst ds) (.ref a) := by
  cases b with
  | true => exact (by unfold Den; exact ⟨a, vs, rfl, SqT.of h, l⟩ : Den K P (.tup ds) (.ref a))
  | false => exact (by unfold Den; exact ⟨a, vs, rfl, h, l⟩ : Den K P (.lst ds) (.ref a))
theorem Wd.freezeR {t : T} {v : V} {d : D} {r : Option Nat} {ρ' : Env} (w : Wd K mg P W H σ ρ) (h : RT K mg P W H r t v) (g : frzT t = some d) (hln : ρ'.length = ρ.length)
    (hρ : ∀ P' W', Same P P' → Den K P' d v → ∀ (i : Nat) (t : T), ρ'[i]? = some (some t) → ρ[i]? = some (some t) ∧ some i ≠ r ∨ ∃ v, σ[i]? = some (some v) ∧ RT K mg P' W' H (some i) t v)
    (hr0 : ∀ P' W', Wd K mg P' W' H σ ρ → Same P P' → Den K P' d v → Wd K mg P' W' H σ ρ') :
    ∃ P' W', Step P W H P' W' H ∧ Wd K mg P' W' H σ ρ' ∧ Den K P' d v := by
  cases t with
  | sh d' => cases g; exact ⟨P, W, Step.refl P W H, hr0 P W w (same_refl P) h, h⟩
  | lst ds =>
    cases g
    obtain ⟨a, vs, e, hw, hh, l⟩ := h
    have pp := (w.own a _ hw).1
    have sm : Same P (upd P a (.lst vs)) := fun x u ex => by rw [upd_ne (ne_of_none ex pp)]; exact ex
    have dn : Den K (upd P a (.lst vs)) (.lst ds) v := by unfold Den; exact ⟨a, vs, e, upd_same, DenL.mono sm ds vs l⟩
    obtain ⟨w', st⟩ := w.frz (ρ' := ρ') hw hh hln (hρ _ _ sm dn)
    exact ⟨_, _, st, w', dn⟩
  | dct ks ds =>
    cases g
    obtain ⟨a, ws, e, hw, hh, k, l⟩ := h
    have pp := (w.own a _ hw).1
    have sm : Same P (upd P a (.dK ws)) := fun x u ex => by rw [upd_ne (ne_of_none ex pp)]; exact ex
    have dn : Den K (upd P a (.dK ws)) (.dct ks ds) v := by unfold Den; exact ⟨a, ws, e, upd_same, k, DenL.mono sm ds _ l⟩
    obtain ⟨w', st⟩ := w.frz (ρ' := ρ') hw hh hln (hρ _ _ sm dn)
    exact ⟨_, _, st, w', dn⟩
  | rcd fs => cases g
  | ins C fs =>
    obtain ⟨p, hp, rfl⟩ := Option.map_eq_some_iff.mp (show (shs fs).map (fun p => D.obj C p.1 p.2) = some d from g)
    obtain ⟨a, c, dx, ws, e, hw, hc, hh, nd, l⟩ := h
    have pp := (w.own a _ hw).1
    have sm : Same P (upd P a (.ins c dx ws)) := fun x u ex => by rw [upd_ne (ne_of_none ex pp)]; exact ex
    obtain ⟨k1, k2⟩ := RF.shs l hp
    have dn : Den K (upd P a (.ins c dx ws)) (.obj C p.1 p.2) v := by unfold Den; exact ⟨a, c, dx, ws, e, hc.2, upd_same, k1, DenL.mono sm _ _ k2⟩
    obtain ⟨w', st⟩ := w.frz (ρ' := ρ') hw hh hln (hρ _ _ sm dn)
    exact ⟨_, _, st, w', dn⟩
  | seq b ts =>
    have g := Option.some.inj (show some (if b then D.tup (ts.map d1) else .lst (ts.map d1)) = some d from g)
    subst g
    obtain ⟨a, vs, rfl, hw, hh, l⟩ := h
    have sm := w.frzS r
    have dn : Den K (frzP P H W r) (if b then .tup (ts.map d1) else .lst (ts.map d1)) (.ref a) := seq_den (by rw [frzP_at hw]; exact hh) (RI.den sm (fun x f e => frzP_at e) l)
    obtain ⟨w', st⟩ := w.frzA (ρ' := ρ') (r := r) hln (hρ _ _ sm dn)
    exact ⟨_, _, st, w', dn⟩
theorem Wd.freeze {t : T} {v : V} {d : D} (w : Wd K mg P W H σ ρ) (h : RT K mg P W H none t v) (g : frzT t = some d) :
    ∃ P' W', Step P W H P' W' H ∧ Wd K mg P' W' H σ ρ ∧ Den K P' d v :=
  w.freezeR h g rfl (fun _ _ _ _ i t e => .inl ⟨e, by simp⟩) (fun _ _ w _ _ => w)
theorem Wd.freezeS {t : T} {d : D} {i : Nat} (w : Wd K mg P W H σ ρ) (e : ρ[i]? = some (some t)) (g : frzT t = some d) :
    ∃ v, σ[i]? = some (some v) ∧ ∃ P' W', Step P W H P' W' H ∧ Wd K mg P' W' H σ (ρ.set i (some (.sh d))) ∧ Den K P' d v := by
  obtain ⟨v, hs, hr⟩ := w.env i t e
  have hi : i < ρ.length := (List.getElem?_eq_some_iff.mp e).1
  refine ⟨v, hs, w.freezeR hr g (by simp) (fun P' W' sm dn j t' ej => ?_) (fun P' W' w' sm dn => ?_)⟩
  · by_cases hj : j = i
    · subst hj
      rw [List.getElem?_set_self hi] at ej
      cases ej
      exact .inr ⟨v, hs, dn⟩
    · rw [List.getElem?_set_ne (Ne.symm hj)] at ej
      exact .inl ⟨ej, fun z => hj (Option.some.inj z)⟩
  · refine ⟨w'.same, w'.own, fun j t' ej => ?_, by simpa using w'.len⟩
    by_cases hj : j = i
    · subst hj
      rw [List.getElem?_set_self hi] at ej
      cases ej
      exact ⟨v, hs, dn⟩
    · rw [List.getElem?_set_ne (Ne.symm hj)] at ej
      exact w'.env j t' ej
/-- a slot's object becomes the one in hand -/
theorem Wd.take {t : T} {i : Nat} (w : Wd K mg P W H σ ρ) (e : ρ[i]? = some (some t)) :
    ∃ v, σ[i]? = some (some v) ∧ ∃ W', Step P W H P W' H ∧ Wd K mg P W' H σ (ρ.set i none) ∧ RT K mg P W' H none t v := by
  obtain ⟨v, hs, hr⟩ := w.env i t e
  have hi : i < ρ.length := (List.getElem?_eq_some_iff.mp e).1
  refine ⟨v, hs, fun a => match W a with | some (some j, f) => if j = i then some (none, f) else some (some j, f) | o => o, ⟨same_refl P, fun a o h wa => ⟨h, by simp only [wa], rfl⟩⟩, ⟨w.same, fun a r ea => ?_, fun j t' ej => ?_, by simpa using w.len⟩, ?_⟩
  · cases q : W a with
    | none => simp only [q] at ea; cases ea
    | some r' => exact w.own a r' q
  · have hj : j ≠ i := fun z => by subst z; rw [List.getElem?_set_self hi] at ej; cases ej
    rw [List.getElem?_set_ne (Ne.symm hj)] at ej
    obtain ⟨v', hs', hr'⟩ := w.env j t' ej
    exact ⟨v', hs', RT.mono (same_refl P) (fun f x ex => ⟨by simp only [ex, if_neg hj], fun _ h => h⟩) t' v' hr'⟩
  · exact RT.mono (same_refl P) (fun f x ex => ⟨by simp [ex], fun _ h => h⟩) t v hr
theorem Wd.forget {i : Nat} (w : Wd K mg P W H σ ρ) : Wd K mg P W H σ (ρ.set i none) := by
  refine ⟨w.same, w.own, fun j t ej => ?_, by simpa using w.len⟩
  by_cases hj : j = i
  · subst hj
    by_cases hi : j < ρ.length
    · rw [List.getElem?_set_self hi] at ej; cases ej
    · rw [List.getElem?_eq_none (by simpa using hi)] at ej; cases ej
  · rw [List.getElem?_set_ne (Ne.symm hj)] at ej
    exact w.env j t ej
end
/-! ### values -/
def eC (d : D) : EM := fun ρ => .ok (d, ρ)
def eV (i : Nat) : EM := fun ρ => match ρ[i]? with
  | some (some (.sh d)) => .ok (d, ρ)
  | _ => .fail
/-- a name whose object is shared from here on -/
def eFv (i : Nat) : EM := fun ρ => match ρ[i]? with
  | some (some t) => match frzT t with
    | some d => .ok (d, ρ.set i (some (.sh d)))
    | none => .fail
  | _ => .fail
/-- a name whose object is handed on -/
def tMv (i : Nat) : OM := fun ρ => match ρ[i]? with
  | some (some t) => .ok (t, ρ.set i none)
  | _ => .fail
def hS (i : Nat) : HM := fun ρ => .ok (.slot i, ρ)
def hV (F : EM) : HM := fun ρ => F ρ >>= fun a => .ok (.val a.1, a.2)
def eFz (F : OM) : EM := fun ρ => F ρ >>= fun a => match frzT a.1 with
  | some d => .ok (d, a.2)
  | none => .fail
def tSh (F : EM) : OM := fun ρ => F ρ >>= fun a => .ok (.sh a.1, a.2)
section
variable {X : Cx} {E : WX} {e : Expr}
theorem ev_of {d : D} {v : V} (h : PE X e (tC v)) (hd : ∀ P, Den X.K P d v) : EV X E e (eC d) := PE.imp h fun σ H Q ⟨P, W, ρ, w, g⟩ =>
  g v P W H (Step.refl P W H) ⟨w, hd P⟩
theorem ev_int {i j pos} : EV X E (.Constant (.int i) j pos) (eC (.int i)) := ev_of pe_int fun _ => by unfold Den; rfl
theorem ev_bl {b j pos} : EV X E (.Constant (.bool b) j pos) (eC (.bl b)) := ev_of pe_bl fun _ => by unfold Den; rfl
theorem ev_non {j pos} : EV X E (.Constant .none j pos) (eC .non) := ev_of pe_non fun _ => by unfold Den; rfl
theorem ev_str {s : Tx} {x j pos} (hx : x = sT s) : EV X E (.Constant (.str x) j pos) (eC (.str s)) := ev_of pe_str fun _ => by unfold Den; rw [hx]
theorem ev_glob {d : D} {x : Str} {v : V} {u : Value} {pos : Pos} (hg : Gl X x) (hm : X.mg x = some u) (r : RelV v u) (hd : ∀ P, Den X.K P d v) (hdb : (x == ("__debug__" : Str)) = false := by decide) : EV X E (.Name x pos) (eC d) :=
  ev_of (pe_glob hg hm r hdb) hd
theorem ev_var {i : Nat} {x : Str} {pos : Pos} (hN : X.N[i]? = some x) (hv : Vis X.env.scope x) (hd : (x == ("__debug__" : Str)) = false := by decide) (hcd : (x == ("__classdict__" : Str)) = false := by decide) : EV X E (.Name x pos) (eV i) :=
  PE.imp (pe_var hN hv hd hcd) fun σ H Q ⟨P, W, ρ, w, g⟩ => by
    unfold eV at g
    cases er : ρ[i]? with
    | none => rw [er] at g; exact g.elim
    | some o =>
      cases o with
      | none => rw [er] at g; exact g.elim
      | some t =>
        rw [er] at g
        obtain ⟨v, hs, hr⟩ := w.env i t er
        cases t with
        | sh d => exact ⟨v, hs, g v P W H (Step.refl P W H) ⟨w, hr⟩⟩
        | _ => exact g.elim
theorem ev_fv {i : Nat} {x : Str} {pos : Pos} (hN : X.N[i]? = some x) (hv : Vis X.env.scope x) (hd : (x == ("__debug__" : Str)) = false := by decide) (hcd : (x == ("__classdict__" : Str)) = false := by decide) : EV X E (.Name x pos) (eFv i) :=
  PE.imp (pe_var hN hv hd hcd) fun σ H Q ⟨P, W, ρ, w, g⟩ => by
    unfold eFv at g
    cases er : ρ[i]? with
    | none => rw [er] at g; exact g.elim
    | some o =>
      cases o with
      | none => rw [er] at g; exact g.elim
      | some t =>
        rw [er] at g
        cases ef : frzT t with
        | none => simp only [ef] at g; exact g.elim
        | some d =>
          simp only [ef] at g
          obtain ⟨v, hs, P', W', st, w', dn⟩ := w.freezeS er ef
          exact ⟨v, hs, g v P' W' H st ⟨w', dn⟩⟩
theorem et_mv {i : Nat} {x : Str} {pos : Pos} (hN : X.N[i]? = some x) (hv : Vis X.env.scope x) (hd : (x == ("__debug__" : Str)) = false := by decide) (hcd : (x == ("__classdict__" : Str)) = false := by decide) : ET X E (.Name x pos) (tMv i) :=
  PE.imp (pe_var hN hv hd hcd) fun σ H Q ⟨P, W, ρ, w, g⟩ => by
    unfold tMv at g
    cases er : ρ[i]? with
    | none => rw [er] at g; exact g.elim
    | some o =>
      cases o with
      | none => rw [er] at g; exact g.elim
      | some t =>
        rw [er] at g
        obtain ⟨v, hs, W', st, w', rt⟩ := w.take er
        exact ⟨v, hs, g v P W' H st ⟨w', rt⟩⟩
/-- the slot must hold something -/
def hSc (i : Nat) : HM := fun ρ => match ρ[i]? with
  | some (some _) => .ok (.slot i, ρ)
  | _ => .fail
theorem eh_s {i : Nat} {x : Str} {pos : Pos} (hN : X.N[i]? = some x) (hv : Vis X.env.scope x) (hd : (x == ("__debug__" : Str)) = false := by decide) (hcd : (x == ("__classdict__" : Str)) = false := by decide) : EH X E (.Name x pos) (hSc i) :=
  PE.imp (pe_var hN hv hd hcd) fun σ H Q ⟨P, W, ρ, w, g⟩ => by
    unfold hSc at g
    cases er : ρ[i]? with
    | none => rw [er] at g; exact g.elim
    | some o =>
      cases o with
      | none => rw [er] at g; exact g.elim
      | some t =>
        rw [er] at g
        obtain ⟨v, hs, hr⟩ := w.env i t er
        exact ⟨v, hs, g v P W H (Step.refl P W H) ⟨w, hs⟩⟩
theorem eh_v {F : EM} (h : EV X E e F) : EH X E e (hV F) := PE.imp h fun σ H Q ⟨P, W, ρ, w, g⟩ =>
  ⟨P, W, ρ, w, (Go.bind g).mono fun v H1 ⟨P1, W1, a, st, ⟨w1, d1⟩, k⟩ => k v P1 W1 H1 (Step.refl P1 W1 H1) ⟨w1, d1⟩⟩
theorem ev_fz {F : OM} (h : ET X E e F) : EV X E e (eFz F) := PE.imp h fun σ H Q ⟨P, W, ρ, w, g⟩ =>
  ⟨P, W, ρ, w, (Go.bind g).mono fun v H1 ⟨P1, W1, a, st, ⟨w1, t1⟩, k⟩ => by
    cases ef : frzT a.1 with
    | none => simp only [ef] at k; exact k.elim
    | some d =>
      simp only [ef] at k
      obtain ⟨P2, W2, s2, w2, dn⟩ := w1.freeze t1 ef
      exact k v P2 W2 H1 s2 ⟨w2, dn⟩⟩
theorem et_sh {F : EM} (h : EV X E e F) : ET X E e (tSh F) := PE.imp h fun σ H Q ⟨P, W, ρ, w, g⟩ =>
  ⟨P, W, ρ, w, (Go.bind g).mono fun v H1 ⟨P1, W1, a, st, ⟨w1, d1⟩, k⟩ => k v P1 W1 H1 (Step.refl P1 W1 H1) ⟨w1, d1⟩⟩
end
/-! ### operations -/
def e1 (f : D → Option D) (A : HM) : EM := fun ρ => A ρ >>= fun a => Res.of ((getH a.1 a.2).bind f) >>= fun r => .ok (r, a.2)
def e2 (f : D → D → Option D) (A B : HM) : EM := fun ρ => A ρ >>= fun a => B a.2 >>= fun b => Res.of ((getH a.1 b.2).bind fun d => (getH b.1 b.2).bind fun e => f d e) >>= fun r => .ok (r, b.2)
def e3 (f : D → D → D → Option D) (A B C : HM) : EM := fun ρ => A ρ >>= fun a => B a.2 >>= fun b => C b.2 >>= fun c =>
  Res.of ((getH a.1 c.2).bind fun d => (getH b.1 c.2).bind fun e => (getH c.1 c.2).bind fun g => f d e g) >>= fun r => .ok (r, c.2)
def t1 (f : D → Option (List D)) (A : HM) : OM := fun ρ => A ρ >>= fun a => Res.of ((getH a.1 a.2).bind f) >>= fun r => .ok (.lst r, a.2)
def t2 (f : D → D → Option (List D)) (A B : HM) : OM := fun ρ => A ρ >>= fun a => B a.2 >>= fun b => Res.of ((getH a.1 b.2).bind fun d => (getH b.1 b.2).bind fun e => f d e) >>= fun r => .ok (.lst r, b.2)
def b2 (f : D → D → Option Bool) (A B : HM) : BM := fun ρ => A ρ >>= fun a => B a.2 >>= fun b => Res.of ((getH a.1 b.2).bind fun d => (getH b.1 b.2).bind fun e => f d e) >>= fun r => .ok (r, b.2)
section
variable (K : PySem.W.Frag)
def Op1V (r : V → Hp → VK → Prop) (f : D → Option D) : Prop := ∀ (P H : Hp) (x : V) (d res : D) (Q : VK), Same P H → View K P H d x → f d = some res → (∀ v P' H', Al P H P' H' → Den K P' res v → Q v H') → r x H Q
def Op2V (r : R2) (f : D → D → Option D) : Prop := ∀ (P H : Hp) (x y : V) (d e res : D) (Q : VK), Same P H → View K P H d x → View K P H e y → f d e = some res → (∀ v P' H', Al P H P' H' → Den K P' res v → Q v H') → r x y H Q
def Op2L (r : R2) (f : D → D → Option (List D)) : Prop := ∀ (P H : Hp) (x y : V) (d e : D) (res : List D) (Q : VK), Same P H → View K P H d x → View K P H e y → f d e = some res → (∀ p vs, H p = none → DenL K P res vs → Q (.ref p) (upd H p (.lst vs))) → r x y H Q
end
section
variable {K : PySem.W.Frag} {mg : Str → Option Value} {E : WX} {P H : Hp} {W : Own} {σ : St} {ρ : Env} {Q : VK}
theorem opt2 {f : D → D → Option α} {a b : Option D} {r : α} (h : (a.bind fun d => b.bind fun e => f d e) = some r) : ∃ d e, a = some d ∧ b = some e ∧ f d e = some r := by
  cases a with
  | none => cases h
  | some d =>
    cases b with
    | none => cases h
    | some e => exact ⟨d, e, rfl, rfl, h⟩
theorem opt1 {f : D → Option α} {a : Option D} {r : α} (h : a.bind f = some r) : ∃ d, a = some d ∧ f d = some r := by
  cases a with
  | none => cases h
  | some d => exact ⟨d, rfl, h⟩
theorem Go.of {α β γ : Type} {Rel : Hp → Own → Hp → St → β → γ → Prop} {o : Option α} {g : α → Res β} {R : γ → Hp → Prop} (h : Go K mg E Rel (Res.of o >>= g) P W H σ R) : ∃ r, o = some r ∧ Go K mg E Rel (g r) P W H σ R := by
  cases o with
  | none => exact h.elim
  | some r => exact ⟨r, rfl, h⟩
theorem GoB.of {α : Type} {o : Option α} {g : α → Res (Bool × Env)} {Q : Bool → Hp → Prop} (h : GoB K mg E (Res.of o >>= g) P W H σ Q) : ∃ r, o = some r ∧ GoB K mg E (g r) P W H σ Q := by
  cases o with
  | none => exact h.elim
  | some r => exact ⟨r, rfl, h⟩
/-- one operand -/
theorem r1_of {α : Type} {f : D → Option α} {A : HM} {β : Type} {Rel : Hp → Own → Hp → St → β → V → Prop} {G : α → Env → Res β}
    (h : rX K mg E Rel (fun ρ => A ρ >>= fun a => Res.of ((getH a.1 a.2).bind f) >>= fun r => G r a.2) σ H Q) :
    rX K mg E (HRel K mg) A σ H fun x H1 => ∃ P1 W1 ρ1 d res, Wd K mg P1 W1 H1 σ ρ1 ∧ View K P1 H1 d x ∧ f d = some res ∧ Go K mg E Rel (G res ρ1) P1 W1 H1 σ Q := by
  obtain ⟨P, W, ρ, w, g⟩ := h
  refine ⟨P, W, ρ, w, (Go.bind g).mono fun x H1 ⟨P1, W1, a, s1, ⟨w1, k1⟩, g1⟩ => ?_⟩
  obtain ⟨r, e, g2⟩ := Go.of g1
  obtain ⟨d, ha, hf⟩ := opt1 e
  exact ⟨P1, W1, a.2, d, r, w1, Hok.view w1 k1 ha, hf, g2⟩
theorem r2_of {α : Type} {f : D → D → Option α} {A B : HM} {β : Type} {Rel : Hp → Own → Hp → St → β → V → Prop} {G : α → Env → Res β}
    (h : rX K mg E Rel (fun ρ => A ρ >>= fun a => B a.2 >>= fun b => Res.of ((getH a.1 b.2).bind fun d => (getH b.1 b.2).bind fun e => f d e) >>= fun r => G r b.2) σ H Q) :
    rX K mg E (HRel K mg) A σ H fun x H1 => rX K mg E (HRel K mg) B σ H1 fun y H2 => ∃ P2 W2 ρ2 d e res, Wd K mg P2 W2 H2 σ ρ2 ∧ View K P2 H2 d x ∧ View K P2 H2 e y ∧ f d e = some res ∧ Go K mg E Rel (G res ρ2) P2 W2 H2 σ Q := by
  obtain ⟨P, W, ρ, w, g⟩ := h
  refine ⟨P, W, ρ, w, (Go.bind g).mono fun x H1 ⟨P1, W1, a, s1, ⟨w1, k1⟩, g1⟩ => ⟨P1, W1, a.2, w1, (Go.bind g1).mono fun y H2 ⟨P2, W2, b, s2, ⟨w2, k2⟩, g2⟩ => ?_⟩⟩
  obtain ⟨r, e, g3⟩ := Go.of g2
  obtain ⟨d, e', ha, hb, hf⟩ := opt2 e
  exact ⟨P2, W2, b.2, d, e', r, w2, Hok.view w2 (Hok.step s2.1 k1) ha, Hok.view w2 k2 hb, hf, g3⟩
theorem rb2_of {f : D → D → Option Bool} {A B : HM} {Q : Bool → Hp → Prop}
    (h : rB K mg E (b2 f A B) σ H Q) :
    rX K mg E (HRel K mg) A σ H fun x H1 => rX K mg E (HRel K mg) B σ H1 fun y H2 => ∃ P2 W2 ρ2 d e res, Wd K mg P2 W2 H2 σ ρ2 ∧ View K P2 H2 d x ∧ View K P2 H2 e y ∧ f d e = some res ∧ GoB K mg E (.ok (res, ρ2)) P2 W2 H2 σ Q := by
  obtain ⟨P, W, ρ, w, g⟩ := h
  refine ⟨P, W, ρ, w, (Go.bindB g).mono fun x H1 ⟨P1, W1, a, s1, ⟨w1, k1⟩, g1⟩ => ⟨P1, W1, a.2, w1, (Go.bindB g1).mono fun y H2 ⟨P2, W2, b, s2, ⟨w2, k2⟩, g2⟩ => ?_⟩⟩
  obtain ⟨r, e, g3⟩ := GoB.of g2
  obtain ⟨d, e', ha, hb, hf⟩ := opt2 e
  exact ⟨P2, W2, b.2, d, e', r, w2, Hok.view w2 (Hok.step s2.1 k1) ha, Hok.view w2 k2 hb, hf, g3⟩
theorem fin_v {d : D} (w : Wd K mg P W H σ ρ) (g : Go K mg E (VRel K mg) (.ok (d, ρ)) P W H σ Q) : ∀ v P' H', Al P H P' H' → Den K P' d v → Q v H' :=
  fun v P' H' al dn => g v P' W H' (al.step W) ⟨w.al al, dn⟩
theorem fin_l {ds : List D} (w : Wd K mg P W H σ ρ) (g : Go K mg E (TRel K mg) (.ok (.lst ds, ρ)) P W H σ Q) : ∀ p vs, H p = none → DenL K P ds vs → Q (.ref p) (upd H p (.lst vs)) :=
  fun p vs n l => g (.ref p) P (ownNew W p none) _ (w.newT n).2 ⟨(w.newT n).1, p, vs, rfl, by unfold ownNew; rw [if_pos rfl], upd_same, l⟩
end
section
variable {X : Cx} {E : WX} {a b c : Expr} {A B C : HM} {pos : Pos}
theorem ev_op {op : Operator} {r : R2} {f : D → D → Option D} (hr : OpR X (binaryOp op) r) (hf : Op2V X.K r f) (ha : EH X E a A) (hb : EH X E b B) : EV X E (.BinOp a op b pos) (e2 f A B) :=
  PE.imp (pe_op hr ha hb) fun σ H Q h => by
    obtain ⟨P, W, ρ, w, g⟩ := r2_of (G := fun r ρ => .ok (r, ρ)) h
    exact ⟨P, W, ρ, w, g.mono fun x H1 ⟨P1, W1, ρ1, w1, g1⟩ => ⟨P1, W1, ρ1, w1, g1.mono fun y H2 ⟨P2, W2, ρ2, d, e, res, w2, v1, v2, hfe, g2⟩ =>
      hf P2 H2 x y d e res Q w2.same v1 v2 hfe (fin_v w2 g2)⟩⟩
theorem et_op {op : Operator} {r : R2} {f : D → D → Option (List D)} (hr : OpR X (binaryOp op) r) (hf : Op2L X.K r f) (ha : EH X E a A) (hb : EH X E b B) : ET X E (.BinOp a op b pos) (t2 f A B) :=
  PE.imp (pe_op hr ha hb) fun σ H Q h => by
    obtain ⟨P, W, ρ, w, g⟩ := r2_of (G := fun r ρ => .ok (T.lst r, ρ)) h
    exact ⟨P, W, ρ, w, g.mono fun x H1 ⟨P1, W1, ρ1, w1, g1⟩ => ⟨P1, W1, ρ1, w1, g1.mono fun y H2 ⟨P2, W2, ρ2, d, e, res, w2, v1, v2, hfe, g2⟩ =>
      hf P2 H2 x y d e res Q w2.same v1 v2 hfe (fin_l w2 g2)⟩⟩
theorem ev_un {op : UnaryOp} {r : V → Hp → VK → Prop} {f : D → Option D} (hr : UnR X (unaryOp op) r) (hf : Op1V X.K r f) (ha : EH X E a A) : EV X E (.UnaryOp op a pos) (e1 f A) :=
  PE.imp (pe_un hr ha) fun σ H Q h => by
    obtain ⟨P, W, ρ, w, g⟩ := r1_of (G := fun r ρ => .ok (r, ρ)) h
    exact ⟨P, W, ρ, w, g.mono fun x H1 ⟨P1, W1, ρ1, d, res, w1, v1, hfe, g1⟩ => hf P1 H1 x d res Q w1.same v1 hfe (fin_v w1 g1)⟩
theorem ev_cmp {op : CmpOp} {r : R2} {f : D → D → Option D} (hr : OpR X (compareOp op) r) (hf : Op2V X.K r f) (ha : EH X E a A) (hb : EH X E b B) (hm : behindInMarks op b = false) : EV X E (.Compare a [op] [b] pos) (e2 f A B) :=
  PE.imp (pe_cmpR hr ha hb hm) fun σ H Q h => by
    obtain ⟨P, W, ρ, w, g⟩ := r2_of (G := fun r ρ => .ok (r, ρ)) h
    exact ⟨P, W, ρ, w, g.mono fun x H1 ⟨P1, W1, ρ1, w1, g1⟩ => ⟨P1, W1, ρ1, w1, g1.mono fun y H2 ⟨P2, W2, ρ2, d, e, res, w2, v1, v2, hfe, g2⟩ =>
      hf P2 H2 x y d e res Q w2.same v1 v2 hfe (fin_v w2 g2)⟩⟩
def Op2B (K : PySem.W.Frag) (r : R2) (f : D → D → Option Bool) : Prop := ∀ (P H : Hp) (x y : V) (d e : D) (res : Bool) (Q : VK), Same P H → View K P H d x → View K P H e y → f d e = some res → Q (.bl res) H → r x y H Q
def blOf (f : D → D → Option Bool) : D → D → Option D := fun d e => (f d e).map D.bl
theorem Op2B.toV {K : PySem.W.Frag} {r : R2} {f : D → D → Option Bool} (h : Op2B K r f) : Op2V K r (blOf f) := fun P H x y d e res Q s v1 v2 hf q => by
  unfold blOf at hf
  cases hb : f d e with
  | none => rw [hb] at hf; cases hf
  | some b =>
    rw [hb] at hf
    cases hf
    exact h P H x y d e b Q s v1 v2 hb (q (.bl b) P H (Al.refl s) (by unfold Den; rfl))
theorem eb_cmp {op : CmpOp} {r : R2} {f : D → D → Option Bool} (hr : OpR X (compareOp op) r) (hf : Op2B X.K r f) (ha : EH X E a A) (hb : EH X E b B) (hm : behindInMarks op b = false) : EB X E (.Compare a [op] [b] pos) (b2 f A B) :=
  PT.imp (pt_cmpR hr ha hb hm) fun σ H Q h => by
    obtain ⟨P, W, ρ, w, g⟩ := rb2_of h
    exact ⟨P, W, ρ, w, g.mono fun x H1 ⟨P1, W1, ρ1, w1, g1⟩ => ⟨P1, W1, ρ1, w1, g1.mono fun y H2 ⟨P2, W2, ρ2, d, e, res, w2, v1, v2, hfe, g2⟩ =>
      hf P2 H2 x y d e res _ w2.same v1 v2 hfe ⟨res, rfl, g2 P2 W2 H2 (Step.refl P2 W2 H2) w2⟩⟩⟩
end
end Od
namespace Od
open PySem PySem.Spec L2
open PyProof.Rows hiding St
theorem szOf {n : Nat} (h : n ≤ 1000000) : n ≤ sizeLine := Nat.le_trans h (by decide)
theorem szLt {n : Nat} (h : n < 1000000) : n < sizeLine := Nat.lt_of_lt_of_le h (by decide)
/-! ### numbers, sums of texts, lists, tuples -/
def fAdd : D → D → Option D
  | .int i, .int j => some (.int (i + j))
  | .str a, .str b => if a.length + b.length ≤ 1000000 then some (.str (a ++ b)) else none
  | .lst a, .lst b => if a.length + b.length ≤ 1000000 then some (.lst (a ++ b)) else none
  | .tup a, .tup b => if a.length + b.length ≤ 1000000 then some (.tup (a ++ b)) else none
  | .bl k, .int j => some (.int ((if k = true then (1 : Int) else 0) + j))
  | _, _ => none
def lAdd : D → D → Option (List D)
  | .lst a, .lst b => if a.length + b.length ≤ 1000000 then some (a ++ b) else none
  | _, _ => none
def fSub : D → D → Option D
  | .int i, .int j => some (.int (i - j))
  | _, _ => none
def okMul (i j : Int) : Bool := (decide (-18446744073709551616 < i) && decide (i < 18446744073709551616)) || (decide (-18446744073709551616 < j) && decide (j < 18446744073709551616))
def fMul : D → D → Option D
  | .int i, .int j => if okMul i j then some (.int (i * j)) else none
  | _, _ => none
def fFdiv : D → D → Option D
  | .int i, .int j => if 0 < j ∧ j < 1073741824 then some (.int (i / j)) else none
  | _, _ => none
def fMod : D → D → Option D
  | .int i, .int j => if 0 < j then some (.int (i % j)) else none
  | _, _ => none
def fPow : D → D → Option D
  | .int i, .int j => if 0 ≤ j ∧ j ≤ 1000000 ∧ i.natAbs < 18446744073709551616 then some (.int (i ^ j.toNat)) else none
  | _, _ => none
def fNeg : D → Option D
  | .int i => some (.int (-i))
  | _ => none
section
variable {K : PySem.W.Frag} {P H : Hp}
theorem vint {i : Int} {v : V} (h : View K P H (.int i) v) : v = .int i := by unfold View at h; unfold Den at h; exact h
theorem vstr {i : Tx} {v : V} (h : View K P H (.str i) v) : v = .str (sT i) := by unfold View at h; unfold Den at h; exact h
theorem vbl {i : Bool} {v : V} (h : View K P H (.bl i) v) : v = .bl i := by unfold View at h; unfold Den at h; exact h
theorem vnon {v : V} (h : View K P H .non v) : v = .non := by unfold View at h; unfold Den at h; exact h
theorem dint {i : Int} : Den K P (.int i) (.int i) := by unfold Den; rfl
theorem dstr {i : Tx} : Den K P (.str i) (.str (sT i)) := by unfold Den; rfl
theorem dbl {i : Bool} : Den K P (.bl i) (.bl i) := by unfold Den; rfl
theorem dnon : Den K P .non .non := by unfold Den; rfl
theorem dnewL {p : Addr} {ds : List D} {vs : List V} (s : Same P H) (n : H p = none) (h : DenL K P ds vs) : Al P H (upd P p (.lst vs)) (upd H p (.lst vs)) ∧ Den K (upd P p (.lst vs)) (.lst ds) (.ref p) := by
  have a := Al.new (o := .lst vs) s n
  exact ⟨a, by unfold Den; exact ⟨p, vs, rfl, upd_same, DenL.mono a.2.1 ds vs h⟩⟩
theorem dnewT {p : Addr} {ds : List D} {vs : List V} (s : Same P H) (n : H p = none) (h : DenL K P ds vs) : Al P H (upd P p (.tup vs)) (upd H p (.tup vs)) ∧ Den K (upd P p (.tup vs)) (.tup ds) (.ref p) := by
  have a := Al.new (o := .tup vs) s n
  exact ⟨a, by unfold Den; exact ⟨p, vs, rfl, SqT.of upd_same, DenL.mono a.2.1 ds vs h⟩⟩
/-- a tuple seen in the shared part -/
theorem vtup {ds : List D} {v : V} (s : Same P H) (h : View K P H (.tup ds) v) : ∃ a vs, v = .ref a ∧ SqT K H a vs ∧ DenL K P ds vs := by
  unfold View at h; unfold Den at h
  obtain ⟨a, vs, e, q, l⟩ := h
  exact ⟨a, vs, e, same_t s q, l⟩
theorem vtupD {ds : List D} {v : V} (h : View K P H (.tup ds) v) : Den K P (.tup ds) v := by
  unfold View at h; exact h
theorem vlst {ds : List D} {v : V} (h : View K P H (.lst ds) v) : ∃ a vs, v = .ref a ∧ H a = some (.lst vs) ∧ DenL K P ds vs := h
theorem vrol {ds : List D} {v : V} (s : Same P H) (h : View K P H (.rol ds) v) : ∃ a vs, v = .ref a ∧ SqL K H a vs ∧ DenL K P ds vs := by
  unfold View at h; unfold Den at h
  obtain ⟨a, vs, e, q, l⟩ := h
  exact ⟨a, vs, e, same_l s q, l⟩
end
/-- True + 1 -/
def rAddBI : R2 := fun x y H Q => ∃ k j, x = V.bl k ∧ y = V.int j ∧ Q (.int ((if k = true then (1 : Int) else 0) + j)) H
theorem op_addBI {X : Cx} : OpR X (binaryOp .Add) rAddBI := by
  rintro pins s σ H x y v u Q I rx ry ⟨k, j, rfl, rfl, q⟩
  obtain ⟨t, rfl⟩ := ry
  cases rx
  exact PySem.IntBool.add_bool_int ⟨.int ((if k = true then (1 : Int) else 0) + j), H, I.tok _, ⟨_, rfl⟩, q⟩
def rAddA (K : PySem.W.Frag) : R2 := fun x y H Q => (rI0 (fun i j => .int (i + j))) x y H Q ∨ (∃ i j, x = V.str i ∧ y = V.str j ∧ i.length + j.length ≤ sizeLine ∧ Q (.str (i ++ j)) H) ∨ rCatA K x y H Q ∨ rCat x y H Q ∨ rAddBI x y H Q
theorem op_addA {X : Cx} : OpR X (binaryOp .Add) (rAddA X.K) := op_add.or (op_add_str.or (op_catA.or (op_cat.or op_addBI)))
theorem f_add {K : PySem.W.Frag} : Op2V K (rAddA K) fAdd := by
  intro P H x y d e res Q s v1 v2 hf q
  unfold fAdd at hf
  split at hf
  · cases hf
    exact .inl ⟨_, _, vint v1, vint v2, q _ P H (Al.refl s) dint⟩
  · rename_i a b
    split at hf
    · rename_i hl
      cases hf
      refine .inr (.inl ⟨_, _, vstr v1, vstr v2, by rw [sT_len, sT_len]; exact szOf hl, ?_⟩)
      rw [sT_app]
      exact q _ P H (Al.refl s) dstr
    · cases hf
  · rename_i a b
    split at hf
    · rename_i hl
      cases hf
      obtain ⟨l, vs, e1, h1, l1⟩ := vlst v1
      obtain ⟨m, ws, e2, h2, l2⟩ := vlst v2
      refine .inr (.inr (.inr (.inl ⟨l, m, vs, ws, e1, e2, h1, h2, by rw [l1.len, l2.len]; exact szOf hl, fun p n => ?_⟩)))
      obtain ⟨al, dn⟩ := dnewL s n (DenL.append l1 l2)
      exact q _ _ _ al dn
    · cases hf
  · rename_i a b
    split at hf
    · rename_i hl
      cases hf
      obtain ⟨l, vs, e1, h1, l1⟩ := vtup s v1
      obtain ⟨m, ws, e2, h2, l2⟩ := vtup s v2
      refine .inr (.inr (.inl ⟨l, m, vs, ws, e1, e2, h1, h2, by rw [l1.len, l2.len]; exact szOf hl, fun z => ?_, fun z z2 => ?_, fun z z2 p n => ?_⟩))
      · have za : a = [] := List.eq_nil_of_length_eq_zero (by rw [← l1.len, z]; rfl)
        subst za
        rw [← e2]
        exact q _ P H (Al.refl s) (vtupD v2)
      · have zb : b = [] := List.eq_nil_of_length_eq_zero (by rw [← l2.len, z2]; rfl)
        subst zb
        rw [← e1, List.append_nil] at *
        exact q _ P H (Al.refl s) (vtupD v1)
      · obtain ⟨al, dn⟩ := dnewT s n (DenL.append l1 l2)
        exact q _ _ _ al dn
    · cases hf
  · rename_i a b
    cases hf
    exact .inr (.inr (.inr (.inr ⟨_, _, vbl v1, vint v2, q _ P H (Al.refl s) dint⟩)))
  · cases hf
theorem l_add {K : PySem.W.Frag} : Op2L K (rAddA K) lAdd := by
  intro P H x y d e res Q s v1 v2 hf q
  unfold lAdd at hf
  split at hf
  · rename_i a b
    split at hf
    · rename_i hl
      cases hf
      obtain ⟨l, vs, e1, h1, l1⟩ := vlst v1
      obtain ⟨m, ws, e2, h2, l2⟩ := vlst v2
      exact .inr (.inr (.inr (.inl ⟨l, m, vs, ws, e1, e2, h1, h2, by rw [l1.len, l2.len]; exact szOf hl, fun p n => q p _ n (DenL.append l1 l2)⟩)))
    · cases hf
  · cases hf
theorem f_sub {K : PySem.W.Frag} : Op2V K (rI0 fun i j => .int (i - j)) fSub := by
  intro P H x y d e res Q s v1 v2 hf q
  unfold fSub at hf
  split at hf
  · cases hf
    exact ⟨_, _, vint v1, vint v2, q _ P H (Al.refl s) dint⟩
  · cases hf
theorem okMul_c {i j : Int} (h : okMul i j = true) : CMul i j := by
  unfold okMul at h
  simp only [Bool.or_eq_true, Bool.and_eq_true, decide_eq_true_eq] at h
  exact h
theorem f_mul {K : PySem.W.Frag} : Op2V K (rI CMul fun i j => .int (i * j)) fMul := by
  intro P H x y d e res Q s v1 v2 hf q
  unfold fMul at hf
  split at hf
  · split at hf
    · rename_i h
      cases hf
      exact ⟨_, _, vint v1, vint v2, okMul_c h, q _ P H (Al.refl s) dint⟩
    · cases hf
  · cases hf
theorem f_fdiv {K : PySem.W.Frag} : Op2V K (rI CDiv fun i j => .int (i / j)) fFdiv := by
  intro P H x y d e res Q s v1 v2 hf q
  unfold fFdiv at hf
  split at hf
  · split at hf
    · rename_i h
      cases hf
      exact ⟨_, _, vint v1, vint v2, h, q _ P H (Al.refl s) dint⟩
    · cases hf
  · cases hf
theorem f_mod {K : PySem.W.Frag} : Op2V K (rI (fun _ j => 0 < j) fun i j => .int (i % j)) fMod := by
  intro P H x y d e res Q s v1 v2 hf q
  unfold fMod at hf
  split at hf
  · split at hf
    · rename_i h
      cases hf
      exact ⟨_, _, vint v1, vint v2, h, q _ P H (Al.refl s) dint⟩
    · cases hf
  · cases hf
theorem f_pow {K : PySem.W.Frag} : Op2V K (rI CPow fun i j => .int (i ^ j.toNat)) fPow := by
  intro P H x y d e res Q s v1 v2 hf q
  unfold fPow at hf
  split at hf
  · split at hf
    · rename_i h
      cases hf
      exact ⟨_, _, vint v1, vint v2, h, q _ P H (Al.refl s) dint⟩
    · cases hf
  · cases hf
theorem f_neg {K : PySem.W.Frag} : Op1V K (rU fun i => .int (-i)) fNeg := by
  intro P H x d res Q s v1 hf q
  unfold fNeg at hf
  split at hf
  · cases hf
    exact ⟨_, vint v1, q _ P H (Al.refl s) dint⟩
  · cases hf
/-! ### comparisons -/
mutual
def D.py : D → PyData
  | .non => .none
  | .bl b => .bool b
  | .int i => .int i
  | .str s => .str (sT s)
  | .tup ds => .tuple (D.pyL ds)
  | .lst ds => .list (D.pyL ds)
  | .rol ds => .list (D.pyL ds)
  | _ => .dict []
def D.pyL : List D → List PyData
  | [] => []
  | d :: ds => D.py d :: D.pyL ds
end
mutual
def D.ok : D → Bool
  | .str s => s.all (· < 1114112)
  | .tup ds => D.okL ds
  | .lst ds => D.okL ds
  | .rol ds => D.okL ds
  | .dct _ _ => false
  | .exn _ _ _ => false
  | .obj _ _ _ => false
  | .fn _ => false
  | _ => true
def D.okL : List D → Bool
  | [] => true
  | d :: ds => D.ok d && D.okL ds
end
mutual
def D.dep : D → Nat
  | .tup ds => D.depL ds + 1
  | .lst ds => D.depL ds + 1
  | .rol ds => D.depL ds + 1
  | _ => 0
def D.depL : List D → Nat
  | [] => 0
  | d :: ds => max (D.dep d) (D.depL ds)
end
mutual
theorem py_ok : ∀ d : D, d.ok = true → d.py.canLay0 = true ∧ d.py.depth = d.dep
  | .non, h => ⟨rfl, rfl⟩
  | .bl b, h => ⟨rfl, rfl⟩
  | .int i, h => ⟨rfl, rfl⟩
  | .str s, h => by
    refine ⟨?_, rfl⟩
    unfold D.ok at h
    show PyData.strOk (sT s) = true
    unfold PyData.strOk sT
    rw [Array.all_eq_true']
    intro x hx
    rw [List.all_eq_true] at h
    exact h x (by simpa using hx)
  | .tup ds, h => by
    unfold D.ok at h
    obtain ⟨a, b⟩ := pyL_ok ds h
    unfold D.py D.dep
    exact ⟨by unfold PyData.canLay0; exact a, by unfold PyData.depth; rw [b]⟩
  | .lst ds, h => by
    unfold D.ok at h
    obtain ⟨a, b⟩ := pyL_ok ds h
    unfold D.py D.dep
    exact ⟨by unfold PyData.canLay0; exact a, by unfold PyData.depth; rw [b]⟩
  | .rol ds, h => by
    unfold D.ok at h
    obtain ⟨a, b⟩ := pyL_ok ds h
    unfold D.py D.dep
    exact ⟨by unfold PyData.canLay0; exact a, by unfold PyData.depth; rw [b]⟩
  | .dct _ _, h => by cases h
  | .exn _ _ _, h => by cases h
  | .obj _ _ _, h => by cases h
  | .fn _, h => by cases h
theorem pyL_ok : ∀ ds : List D, D.okL ds = true → PyData.canLayAll0 (D.pyL ds) = true ∧ PyData.depthAll (D.pyL ds) = D.depL ds
  | [], h => ⟨rfl, rfl⟩
  | d :: ds, h => by
    unfold D.okL at h
    rw [Bool.and_eq_true] at h
    obtain ⟨a, b⟩ := py_ok d h.1
    obtain ⟨a', b'⟩ := pyL_ok ds h.2
    unfold D.pyL D.depL
    exact ⟨by unfold PyData.canLayAll0; rw [a, a']; rfl, by unfold PyData.depthAll; rw [b, b']⟩
end
section
variable {K : PySem.W.Frag} {P H : Hp}
mutual
theorem den_dp (s : Same P H) : ∀ (d : D) (v : V), d.ok = true → Den K P d v → Dp K H v d.py
  | .non, v, o, h => by unfold Den at h; subst h; exact .non
  | .bl b, v, o, h => by unfold Den at h; subst h; exact .bl b
  | .int i, v, o, h => by unfold Den at h; subst h; exact .int i
  | .str x, v, o, h => by unfold Den at h; subst h; exact .str _
  | .tup ds, v, o, h => by
    unfold Den at h
    obtain ⟨a, vs, rfl, q, l⟩ := h
    unfold D.ok at o
    unfold D.py
    exact .tup (same_t s q) (denL_dp s ds vs o l)
  | .lst ds, v, o, h => by
    unfold Den at h
    obtain ⟨a, vs, rfl, q, l⟩ := h
    unfold D.ok at o
    unfold D.py
    exact .lst (SqL.of (s a _ q)) (denL_dp s ds vs o l)
  | .rol ds, v, o, h => by
    unfold Den at h
    obtain ⟨a, vs, rfl, q, l⟩ := h
    unfold D.ok at o
    unfold D.py
    exact .lst (same_l s q) (denL_dp s ds vs o l)
  | .dct _ _, v, o, h => by cases o
  | .exn _ _ _, v, o, h => by cases o
  | .obj _ _ _, v, o, h => by cases o
  | .fn _, v, o, h => by cases o
theorem denL_dp (s : Same P H) : ∀ (ds : List D) (vs : List V), D.okL ds = true → DenL K P ds vs → DpAll K H vs (D.pyL ds)
  | [], vs, o, h => by unfold DenL at h; subst h; exact .nil
  | d :: ds, vs, o, h => by
    unfold DenL at h
    obtain ⟨v, r, rfl, h1, h2⟩ := h
    unfold D.okL at o
    rw [Bool.and_eq_true] at o
    unfold D.pyL
    exact .cons (den_dp s d v o.1 h1) (denL_dp s ds r o.2 h2)
end
theorem view_dp (s : Same P H) {d : D} {v : V} (o : d.ok = true) (h : View K P H d v) : Dp K H v d.py := by
  cases d with
  | lst ds =>
    obtain ⟨a, vs, rfl, q, l⟩ := vlst h
    unfold D.ok at o
    unfold D.py
    exact .lst (SqL.of q) (denL_dp s ds vs o l)
  | dct _ _ => cases o
  | exn _ _ _ => cases o
  | obj _ _ _ => cases o
  | fn _ => cases o
  | _ => exact den_dp s _ v o h
end
def D.eqB (d e : D) : Bool := PyData.eqv d.py e.py
def okCmp (d e : D) : Bool := d.ok && e.ok && decide (d.dep ≤ 60) && decide (e.dep ≤ 60)
def fEq : D → D → Option Bool
  | .int i, .int j => some (decide (i = j))
  | .str a, .str b => some (decide (a = b))
  | .bl a, .bl b => some (decide (a = b))
  | .non, .int j => some false
  | .int j, .non => some false
  | .non, .str j => some false
  | .str j, .non => some false
  | .int j, .str k => some false
  | .str j, .int k => some false
  | d, e => if okCmp d e then some (D.eqB d e) else none
def fNe (d e : D) : Option Bool := (fEq d e).map (! ·)
theorem eq_cases (d e : D) : (∃ i j, d = .int i ∧ e = .int j ∧ fEq d e = some (decide (i = j))) ∨ (∃ i j, d = .str i ∧ e = .str j ∧ fEq d e = some (decide (i = j))) ∨ (∃ i j, d = .bl i ∧ e = .bl j ∧ fEq d e = some (decide (i = j))) ∨
    (fEq d e = some false ∧ ((d = .non ∧ ∃ j, e = .int j) ∨ (e = .non ∧ ∃ j, d = .int j) ∨ (d = .non ∧ ∃ j, e = .str j) ∨ (e = .non ∧ ∃ j, d = .str j) ∨ (∃ i j, d = .int i ∧ e = .str j) ∨ (∃ i j, d = .str i ∧ e = .int j))) ∨
    fEq d e = (if okCmp d e then some (D.eqB d e) else none) := by
  cases d <;> cases e <;> first
    | exact .inl ⟨_, _, rfl, rfl, rfl⟩
    | exact .inr (.inl ⟨_, _, rfl, rfl, rfl⟩)
    | exact .inr (.inr (.inl ⟨_, _, rfl, rfl, rfl⟩))
    | exact .inr (.inr (.inr (.inl ⟨rfl, .inl ⟨rfl, _, rfl⟩⟩)))
    | exact .inr (.inr (.inr (.inl ⟨rfl, .inr (.inl ⟨rfl, _, rfl⟩)⟩)))
    | exact .inr (.inr (.inr (.inl ⟨rfl, .inr (.inr (.inl ⟨rfl, _, rfl⟩))⟩)))
    | exact .inr (.inr (.inr (.inl ⟨rfl, .inr (.inr (.inr (.inl ⟨rfl, _, rfl⟩)))⟩)))
    | exact .inr (.inr (.inr (.inl ⟨rfl, .inr (.inr (.inr (.inr (.inl ⟨_, _, rfl, rfl⟩))))⟩)))
    | exact .inr (.inr (.inr (.inl ⟨rfl, .inr (.inr (.inr (.inr (.inr ⟨_, _, rfl, rfl⟩))))⟩)))
    | exact .inr (.inr (.inr (.inr rfl)))
def rEqA (K : PySem.W.Frag) : R2 := fun x y H Q => rEq x y H Q ∨ rEqD K x y H Q
def rNeA (K : PySem.W.Frag) : R2 := fun x y H Q => rNe x y H Q ∨ rNeD K x y H Q
theorem op_eqA {X : Cx} (hu : X.A.units + 64 < cLine) : OpR X (compareOp .Eq) (rEqA X.K) := op_eq.or (op_eqD hu)
theorem op_neA {X : Cx} (hu : X.A.units + 64 < cLine) : OpR X (compareOp .NotEq) (rNeA X.K) := op_ne.or (op_neD hu)
theorem shaped_of {d : D} (o : d.ok = true) (h : d.dep ≤ 60) : SeqAt.shaped d.py = true := by
  unfold SeqAt.shaped
  obtain ⟨a, b⟩ := py_ok d o
  rw [a, b]
  simp; omega
theorem str_eq {i j : Tx} : decide (V.str (sT i) = V.str (sT j)) = decide (i = j) := by
  by_cases h : i = j
  · subst h; simp
  · rw [decide_eq_false h, decide_eq_false]
    intro e
    exact h (sT_inj (by injection e))
theorem f_eqG {K : PySem.W.Frag} {P H : Hp} {x y : V} {d e : D} {res : Bool} {Q : VK} (s : Same P H) (v1 : View K P H d x) (v2 : View K P H e y) (hf : fEq d e = some res) (q : Q (.bl res) H) : rEqA K x y H Q := by
  rcases eq_cases d e with ⟨i, j, rfl, rfl, h⟩ | ⟨i, j, rfl, rfl, h⟩ | ⟨i, j, rfl, rfl, h⟩ | ⟨h, h2⟩ | h <;> rw [h] at hf
  · cases hf
    rw [vint v1, vint v2]
    refine .inl ⟨rfl, ?_⟩
    simpa using q
  · cases hf
    rw [vstr v1, vstr v2]
    refine .inl ⟨rfl, ?_⟩
    rw [str_eq]; exact q
  · cases hf
    rw [vbl v1, vbl v2]
    refine .inl ⟨rfl, ?_⟩
    simpa using q
  · cases hf
    rcases h2 with ⟨rfl, j, rfl⟩ | ⟨rfl, j, rfl⟩ | ⟨rfl, j, rfl⟩ | ⟨rfl, j, rfl⟩ | ⟨i, j, rfl, rfl⟩ | ⟨i, j, rfl, rfl⟩
    · rw [vnon v1, vint v2]; exact .inl ⟨rfl, by simpa using q⟩
    · rw [vint v1, vnon v2]; exact .inl ⟨rfl, by simpa using q⟩
    · rw [vnon v1, vstr v2]; exact .inl ⟨rfl, by simpa using q⟩
    · rw [vstr v1, vnon v2]; exact .inl ⟨rfl, by simpa using q⟩
    · rw [vint v1, vstr v2]; exact .inl ⟨rfl, by simpa using q⟩
    · rw [vstr v1, vint v2]; exact .inl ⟨rfl, by simpa using q⟩
  · split at hf
    · rename_i o
      unfold okCmp at o
      simp only [Bool.and_eq_true, decide_eq_true_eq] at o
      obtain ⟨⟨⟨o1, o2⟩, o3⟩, o4⟩ := o
      cases hf
      exact .inr ⟨d.py, e.py, view_dp s o1 v1, view_dp s o2 v2, shaped_of o1 o3, shaped_of o2 o4, q⟩
    · cases hf
theorem f_eq {K : PySem.W.Frag} : Op2B K (rEqA K) fEq := fun P H x y d e res Q s v1 v2 hf q => f_eqG s v1 v2 hf q
theorem f_ne {K : PySem.W.Frag} : Op2B K (rNeA K) fNe := fun P H x y d e res Q s v1 v2 hf q => by
  unfold fNe at hf
  cases h : fEq d e with
  | none => rw [h] at hf; cases hf
  | some b =>
    rw [h] at hf
    cases hf
    have g := f_eqG (Q := fun v H' => ∃ b, v = .bl b ∧ Q (.bl (!b)) H') s v1 v2 h ⟨b, rfl, q⟩
    rcases g with ⟨h1, b', e1, q1⟩ | ⟨d', e', h1, h2, h3, h4, b', e1, q1⟩
    · cases e1; exact .inl ⟨h1, q1⟩
    · cases e1; exact .inr ⟨d', e', h1, h2, h3, h4, q1⟩
def cLt : D → D → Option Bool
  | .int i, .int j => some (decide (i < j))
  | .str i, .str j => some (decide (i < j))
  | _, _ => none
def cLe : D → D → Option Bool
  | .int i, .int j => some (decide (i ≤ j))
  | _, _ => none
def cGt : D → D → Option Bool
  | .int i, .int j => some (decide (j < i))
  | _, _ => none
def cGe : D → D → Option Bool
  | .int i, .int j => some (decide (j ≤ i))
  | _, _ => none
def rLtA : R2 := fun x y H Q => (rI0 fun i j => .bl (decide (i < j))) x y H Q ∨ ∃ i j, x = V.str i ∧ y = V.str j ∧ Q (.bl (decide (i.cps.toList < j.cps.toList))) H
theorem op_ltA {X : Cx} : OpR X (compareOp .Lt) rLtA := op_lt.or op_lt_str
theorem f_lt {K : PySem.W.Frag} : Op2B K rLtA cLt := fun P H x y d e res Q s v1 v2 hf q => by
  unfold cLt at hf
  split at hf
  · cases hf; exact .inl ⟨_, _, vint v1, vint v2, q⟩
  · cases hf
    refine .inr ⟨_, _, vstr v1, vstr v2, ?_⟩
    rw [sT_cps, sT_cps]; exact q
  · cases hf
theorem f_le {K : PySem.W.Frag} : Op2B K (rI0 fun i j => .bl (decide (i ≤ j))) cLe := fun P H x y d e res Q s v1 v2 hf q => by
  unfold cLe at hf
  split at hf
  · cases hf; exact ⟨_, _, vint v1, vint v2, q⟩
  · cases hf
theorem f_gt {K : PySem.W.Frag} : Op2B K (rI0 fun i j => .bl (decide (j < i))) cGt := fun P H x y d e res Q s v1 v2 hf q => by
  unfold cGt at hf
  split at hf
  · cases hf; exact ⟨_, _, vint v1, vint v2, q⟩
  · cases hf
theorem f_ge {K : PySem.W.Frag} : Op2B K (rI0 fun i j => .bl (decide (j ≤ i))) cGe := fun P H x y d e res Q s v1 v2 hf q => by
  unfold cGe at hf
  split at hf
  · cases hf; exact ⟨_, _, vint v1, vint v2, q⟩
  · cases hf
/-- is None -/
def cIsN : D → D → Option Bool
  | .non, .non => some true
  | _, .non => some false
  | _, _ => none
def cNotN (d e : D) : Option Bool := (cIsN d e).map (! ·)
theorem isN_v {K : PySem.W.Frag} {P H : Hp} {x y : V} {d e : D} {res : Bool} (v1 : View K P H d x) (v2 : View K P H e y) (hf : cIsN d e = some res) : y = .non ∧ decide (x = .non) = res := by
  unfold cIsN at hf
  split at hf
  · cases hf
    exact ⟨vnon v2, by rw [vnon v1]; rfl⟩
  · rename_i hd
    cases hf
    refine ⟨vnon v2, ?_⟩
    have hx : x ≠ .non := by
      cases d with
      | non => exact absurd rfl hd
      | bl b => rw [vbl v1]; intro z; cases z
      | int b => rw [vint v1]; intro z; cases z
      | str b => rw [vstr v1]; intro z; cases z
      | tup ds => obtain ⟨a, vs, e, _⟩ := vtupD v1; subst e; intro z; cases z
      | lst ds => obtain ⟨a, vs, e, _⟩ := vlst v1; subst e; intro z; cases z
      | rol ds => obtain ⟨a, vs, e, _⟩ := v1; subst e; intro z; cases z
      | dct ks ds => obtain ⟨a, vs, e, _⟩ := v1; subst e; intro z; cases z
      | exn c ks ds => obtain ⟨a, C, d, ws, e, _⟩ := v1; subst e; intro z; cases z
      | obj c ks ds => obtain ⟨a, C, d, ws, e, _⟩ := v1; subst e; intro z; cases z
      | fn ds => obtain ⟨f, vs, e, _⟩ := v1; subst e; intro z; cases z
    exact decide_eq_false hx
  · cases hf
theorem f_isN {K : PySem.W.Frag} : Op2B K (fun x y H Q => y = .non ∧ Q (.bl (decide (x = .non))) H) cIsN := fun P H x y d e res Q s v1 v2 hf q => by
  obtain ⟨h1, h2⟩ := isN_v v1 v2 hf
  exact ⟨h1, by rw [h2]; exact q⟩
theorem f_notN {K : PySem.W.Frag} : Op2B K (fun x y H Q => y = .non ∧ Q (.bl (!decide (x = .non))) H) cNotN := fun P H x y d e res Q s v1 v2 hf q => by
  unfold cNotN at hf
  cases h : cIsN d e with
  | none => rw [h] at hf; cases hf
  | some b =>
    rw [h] at hf
    cases hf
    obtain ⟨h1, h2⟩ := isN_v v1 v2 h
    exact ⟨h1, by rw [h2]; exact q⟩
/-- in -/
def D.flat : D → Bool
  | .non => true | .bl _ => true | .int _ => true | .str _ => true
  | _ => false
def D.flatEq : D → D → Bool
  | .non, .non => true
  | .bl a, .bl b => a == b
  | .bl a, .int b => (if a then 1 else 0) == b
  | .int a, .bl b => a == (if b then 1 else 0)
  | .int a, .int b => a == b
  | .str a, .str b => a == b
  | _, _ => false
def inL (d : D) (ds : List D) : Option Bool := if d.flat && ds.all D.flat then some (ds.any fun z => D.flatEq z d) else if okCmp d (.lst ds) then some (ds.any fun z => D.eqB z d) else none
def cIn : D → D → Option Bool
  | d, .lst ds => inL d ds
  | d, .tup ds => if d.flat && ds.all D.flat then some (ds.any fun z => D.flatEq z d) else none
  | .str [c], .str z => some (decide (c ∈ z))
  | .int i, .dct ks _ => some (ks.any fun k => decide (k = .inl i))
  | .str i, .dct ks _ => some (ks.any fun k => decide (k = .inr i))
  | _, _ => none
def cNotIn (d e : D) : Option Bool := (cIn d e).map (! ·)
end Od
namespace Od
open PySem PySem.Spec L2
open PyProof.Rows hiding St
/-! ### in -/
section
variable {K : PySem.W.Frag} {P H : Hp}
theorem dflat {d : D} {v : V} (f : d.flat = true) (h : Den K P d v) : flatV v = true := by
  cases d <;> simp [D.flat] at f <;> unfold Den at h <;> subst h <;> rfl
theorem sT_beq {a b : Tx} : (sT a == sT b) = (a == b) := by
  by_cases h : a = b
  · subst h; simp
  · have h2 : ¬ sT a = sT b := fun e => h (sT_inj e)
    rw [beq_eq_false_iff_ne.mpr h2, beq_eq_false_iff_ne.mpr h]
theorem dflatEq {d e : D} {v u : V} (f : d.flat = true) (g : e.flat = true) (h : Den K P d v) (k : Den K P e u) : eqV v u = D.flatEq d e := by
  cases d <;> simp [D.flat] at f <;> cases e <;> simp [D.flat] at g <;> unfold Den at h k <;> subst h <;> subst k <;> simp [eqV, D.flatEq]
  exact sT_beq
theorem flatL : ∀ {ds : List D} {vs : List V}, ds.all D.flat = true → DenL K P ds vs → vs.all flatV = true
  | [], vs, f, h => by unfold DenL at h; subst h; rfl
  | d :: ds, vs, f, h => by
    unfold DenL at h
    obtain ⟨v, r, rfl, h1, h2⟩ := h
    rw [List.all_cons, Bool.and_eq_true] at f ⊢
    exact ⟨dflat f.1 h1, flatL f.2 h2⟩
theorem inV_eq {d : D} {v : V} (f : d.flat = true) (h : Den K P d v) : ∀ {ds : List D} {vs : List V}, ds.all D.flat = true → DenL K P ds vs → inV v vs = ds.any fun z => D.flatEq z d
  | [], vs, _, k => by unfold DenL at k; subst k; rfl
  | e :: ds, vs, g, k => by
    unfold DenL at k
    obtain ⟨u, r, rfl, h1, h2⟩ := k
    rw [List.all_cons, Bool.and_eq_true] at g
    have ih := inV_eq f h g.2 h2
    unfold inV at ih ⊢
    rw [List.any_cons, List.any_cons, ih, dflatEq g.1 f h1 h]
theorem vden {d : D} {v : V} (f : d.flat = true) (h : View K P H d v) : Den K P d v := by
  cases d <;> simp [D.flat] at f <;> exact h
theorem pyL_any (d : D) : ∀ ds : List D, ((D.pyL ds).any fun z => PyData.eqv z d.py) = ds.any fun z => D.eqB z d
  | [] => rfl
  | e :: ds => by
    show ((D.py e :: D.pyL ds).any fun z => PyData.eqv z d.py) = _
    rw [List.any_cons, List.any_cons, pyL_any d ds]; rfl
theorem valV_keys (ws : List (Key × V)) (k : Key) : (valV ws k).isSome = (ws.map Prod.fst).any fun j => decide (j = k) := by
  rw [← valV_any, List.any_map]; rfl
theorem keys_any (ks : List DK) (k : DK) : ((ks.map kK).any fun j => decide (j = kK k)) = ks.any fun j => decide (j = k) := by
  rw [List.any_map]
  congr 1
  funext j
  by_cases h : j = k
  · subst h; simp
  · have : ¬ kK j = kK k := fun e => h (kK_inj e)
    simp [h, this]
end
theorem op_inK {X : Cx} (hu : X.A.units + 1 < cLine) : OpR X (compareOp .In) (fun x y H Q => ∃ a o, y = .ref a ∧ DGet H a x o ∧ Q (.bl o.isSome) H) := by
  intro pins s σ H x y v u Q I rx ry h
  obtain ⟨a, o, rfl, g, q⟩ := h
  cases ry
  exact d_in hu I g rx fun s3 I3 => ⟨.bl _, H, I3, rfl, q⟩
theorem op_notInK {X : Cx} (hu : X.A.units + 1 < cLine) : OpR X (compareOp .NotIn) (fun x y H Q => ∃ a o, y = .ref a ∧ DGet H a x o ∧ Q (.bl (!o.isSome)) H) := by
  intro pins s σ H x y v u Q I rx ry h
  obtain ⟨a, o, rfl, g, q⟩ := h
  cases ry
  exact d_notIn hu I g rx fun s3 I3 => ⟨.bl _, H, I3, rfl, q⟩
def rInA (K : PySem.W.Frag) : R2 := fun x y H Q => rIn K false x y H Q ∨ rInD K x y H Q ∨ (∃ (c : Nat) (z : Str), x = V.str ⟨#[c]⟩ ∧ y = V.str z ∧ Q (.bl (decide (c ∈ z.cps.toList))) H) ∨ (∃ a o, y = V.ref a ∧ DGet H a x o ∧ Q (.bl o.isSome) H)
def rNotInA (K : PySem.W.Frag) : R2 := fun x y H Q => rIn K true x y H Q ∨ rNotInD K x y H Q ∨ (∃ (c : Nat) (z : Str), x = V.str ⟨#[c]⟩ ∧ y = V.str z ∧ Q (.bl (!decide (c ∈ z.cps.toList))) H) ∨ (∃ a o, y = V.ref a ∧ DGet H a x o ∧ Q (.bl (!o.isSome)) H)
theorem op_inA {X : Cx} (hu : X.A.units + 65 < cLine) : OpR X (compareOp .In) (rInA X.K) := op_in_seq.or ((op_inD hu).or (op_in_sign.or (op_inK (by omega))))
theorem op_notInA {X : Cx} (hu : X.A.units + 65 < cLine) : OpR X (compareOp .NotIn) (rNotInA X.K) := op_notIn_seq.or ((op_notInD hu).or (op_notIn_sign.or (op_notInK (by omega))))
/-- what «in» rests upon: one of four ways, with its answer -/
theorem in_cases {K : PySem.W.Frag} {P H : Hp} {x y : V} {d e : D} {res : Bool} (s : Same P H) (v1 : View K P H d x) (v2 : View K P H e y) (hf : cIn d e = some res) :
    (∃ p xs, y = .ref p ∧ (SqL K H p xs ∨ SqT K H p xs) ∧ flatV x = true ∧ xs.all flatV = true ∧ inV x xs = res) ∨
    (∃ d' ds, Dp K H x d' ∧ Dp K H y (.list ds) ∧ SeqAt.shaped d' = true ∧ SeqAt.shaped (.list ds) = true ∧ (ds.any fun z => PyData.eqv z d') = res) ∨
    (∃ (c : Nat) (z : Str), x = V.str ⟨#[c]⟩ ∧ y = V.str z ∧ decide (c ∈ z.cps.toList) = res) ∨ (∃ a o, y = V.ref a ∧ DGet H a x o ∧ o.isSome = res) := by
  unfold cIn at hf
  split at hf
  · rename_i ds
    unfold inL at hf
    split at hf
    · rename_i f
      cases hf
      rw [Bool.and_eq_true] at f
      obtain ⟨a, vs, rfl, q, l⟩ := vlst v2
      exact .inl ⟨a, vs, rfl, .inl (SqL.of q), dflat f.1 (vden f.1 v1), flatL f.2 l, inV_eq f.1 (vden f.1 v1) f.2 l⟩
    · split at hf
      · rename_i o
        cases hf
        unfold okCmp at o
        simp only [Bool.and_eq_true, decide_eq_true_eq] at o
        obtain ⟨⟨⟨o1, o2⟩, o3⟩, o4⟩ := o
        refine .inr (.inl ⟨d.py, D.pyL ds, view_dp s o1 v1, ?_, shaped_of o1 o3, ?_, pyL_any d ds⟩)
        · have := view_dp s o2 v2; unfold D.py at this; exact this
        · have := shaped_of o2 o4; unfold D.py at this; exact this
      · cases hf
  · rename_i ds
    split at hf
    · rename_i f
      cases hf
      rw [Bool.and_eq_true] at f
      obtain ⟨a, vs, rfl, q, l⟩ := vtup s v2
      exact .inl ⟨a, vs, rfl, .inr q, dflat f.1 (vden f.1 v1), flatL f.2 l, inV_eq f.1 (vden f.1 v1) f.2 l⟩
    · cases hf
  · rename_i c z
    cases hf
    exact .inr (.inr (.inl ⟨c, sT z, vstr v1, vstr v2, by rw [sT_cps]⟩))
  · rename_i i ks vs
    cases hf
    obtain ⟨a, ws, rfl, q, k, l⟩ := v2
    rw [vint v1]
    refine .inr (.inr (.inr ⟨a, _, rfl, DGet.k (k := .inl i) q, ?_⟩))
    rw [valV_keys, k]
    exact keys_any ks (.inl i)
  · rename_i i ks vs
    cases hf
    obtain ⟨a, ws, rfl, q, k, l⟩ := v2
    rw [vstr v1]
    refine .inr (.inr (.inr ⟨a, _, rfl, DGet.k (k := .inr (sT i)) q, ?_⟩))
    rw [valV_keys, k]
    exact keys_any ks (.inr i)
  · cases hf
theorem f_in {K : PySem.W.Frag} : Op2B K (rInA K) cIn := fun P H x y d e res Q s v1 v2 hf q => by
  rcases in_cases s v1 v2 hf with ⟨p, xs, h1, h2, h3, h4, h5⟩ | ⟨d', ds, h1, h2, h3, h4, h5⟩ | ⟨c, z, h1, h2, h5⟩ | ⟨a, o, h1, h2, h5⟩
  · exact .inl ⟨p, xs, h1, h2, h3, h4, by rw [h5]; exact q⟩
  · exact .inr (.inl ⟨d', ds, h1, h2, h3, h4, by rw [h5]; exact q⟩)
  · exact .inr (.inr (.inl ⟨c, z, h1, h2, by rw [h5]; exact q⟩))
  · exact .inr (.inr (.inr ⟨a, o, h1, h2, by rw [h5]; exact q⟩))
theorem f_notIn {K : PySem.W.Frag} : Op2B K (rNotInA K) cNotIn := fun P H x y d e res Q s v1 v2 hf q => by
  unfold cNotIn at hf
  cases h : cIn d e with
  | none => rw [h] at hf; cases hf
  | some b =>
    rw [h] at hf
    cases hf
    rcases in_cases s v1 v2 h with ⟨p, xs, h1, h2, h3, h4, h5⟩ | ⟨d', ds, h1, h2, h3, h4, h5⟩ | ⟨c, z, h1, h2, h5⟩ | ⟨a, o, h1, h2, h5⟩
    · exact .inl ⟨p, xs, h1, h2, h3, h4, by rw [h5]; exact q⟩
    · exact .inr (.inl ⟨d', ds, h1, h2, h3, h4, by rw [h5]; exact q⟩)
    · exact .inr (.inr (.inl ⟨c, z, h1, h2, by rw [h5]; exact q⟩))
    · exact .inr (.inr (.inr ⟨a, o, h1, h2, by rw [h5]; exact q⟩))
/-! ### subscripts -/
def kLook (ks : List DK) (vs : List D) (k : DK) : Option D := ((ks.zip vs).find? fun p => decide (p.1 = k)).map Prod.snd
def fIdx : D → D → Option D
  | .lst ds, .int i => atI ds i
  | .rol ds, .int i => atI ds i
  | .tup ds, .int i => atI ds i
  | .str s, .int i => if s.length ≤ 1000000 then (atI s i).map fun c => .str [c] else none
  | .dct ks vs, .int i => kLook ks vs (.inl i)
  | .dct ks vs, .str i => kLook ks vs (.inr i)
  | _, _ => none
theorem ix_dct {X : Cx} (hu : X.A.units + 1 < cLine) : IxR X (fun x y H Q => ∃ a v, x = .ref a ∧ DGet H a y (some v) ∧ Q v H) := by
  intro value slice pins s σ H x y v u Q I rx ry h hs
  obtain ⟨a, z, rfl, g, q⟩ := h
  cases rx
  have hT := dict_typeIs I g
  unfold subscriptTail
  refine wpAny_bind ?_
  rw [getitemInPython_of_ne hT.not_modules]
  refine wpAny_bind (wpAny_specialOf hT PySem.F.slot_dict_getitem.lookup ?_)
  have fin : wpAny (model X.prog X.w) X.A (subscripted slice false (.ref a) u) (fun r s₃ => wpAny (model X.prog X.w) X.A (letTemporaryGo value (.ref a) r >>= fun _ => pure r) (EP X pins σ Q) X.xe s₃) X.xe s := by
    rw [hs]
    exact wpAny_operating (wpAny_mono (d_getItem hu I g ry fun w' s' I' r' => (show EP X pins σ Q w' s' from ⟨z, H, I', r', q⟩)) (fun r s₃ h₃ => wpAny_bind (wpAny_letTemporaryGo (wpAny_pure h₃))) fun _ _ x => x)
  first
    | exact wpAny_pure (wpAny_bind fin)
    | exact wpAny_bind (wpAny_pure (wpAny_bind fin))
    | exact wpAny_bind fin
def rIxA (K : PySem.W.Frag) : R2 := fun x y H Q => rIx K x y H Q ∨ ∃ a v, x = V.ref a ∧ DGet H a y (some v) ∧ Q v H
theorem ix_A {X : Cx} (hu : X.A.units + 1 < cLine) : IxR X (rIxA X.K) := ix_seq.or (ix_dct hu)
theorem atI_den {K : PySem.W.Frag} {P : Hp} {ds : List D} {vs : List V} {i : Int} {d : D} (l : DenL K P ds vs) (h : atI ds i = some d) : ∃ v, atI vs i = some v ∧ Den K P d v := by
  unfold atI at h ⊢
  rw [l.len]
  cases e : ixN ds.length i with
  | none => rw [e] at h; cases h
  | some j =>
    rw [e] at h
    exact l.get h
theorem kLook_v {K : PySem.W.Frag} {P : Hp} : ∀ {ks : List DK} {ds : List D} {ws : List (Key × V)} {k : DK} {d : D}, ws.map Prod.fst = ks.map kK → DenL K P ds (ws.map Prod.snd) → kLook ks ds k = some d → ∃ v, valV ws (kK k) = some v ∧ Den K P d v
  | [], ds, ws, k, d, _, _, h => by simp [kLook] at h
  | k0 :: ks, [], ws, k, d, _, _, h => by simp [kLook] at h
  | k0 :: ks, d0 :: ds, [], k, d, e, _, h => by simp at e
  | k0 :: ks, d0 :: ds, (j, v) :: ws, k, d, e, l, h => by
    simp only [List.map_cons, List.cons.injEq] at e
    simp only [List.map_cons] at l
    unfold DenL at l
    obtain ⟨v', r, e2, h1, h2⟩ := l
    simp only [List.cons.injEq] at e2
    obtain ⟨rfl, rfl⟩ := e2
    unfold kLook at h
    rw [List.zip_cons_cons, List.find?_cons] at h
    by_cases hk : k0 = k
    · subst hk
      rw [decide_eq_true rfl] at h
      simp only [Option.map_some, Option.some.injEq] at h
      subst h
      exact ⟨v, valV_pos (p := (j, v)) e.1, h1⟩
    · rw [decide_eq_false hk] at h
      have hj : ¬ (j, v).1 = kK k := fun z => hk (kK_inj (e.1.symm.trans z))
      rw [valV_neg hj]
      exact kLook_v e.2 h2 h
theorem f_idx {K : PySem.W.Frag} : Op2V K (rIxA K) fIdx := by
  intro P H x y d e res Q s v1 v2 hf q
  unfold fIdx at hf
  split at hf
  · obtain ⟨a, vs, rfl, h, l⟩ := vlst v1
    obtain ⟨v, hv, dn⟩ := atI_den l hf
    exact .inl (.inl ⟨a, vs, _, v, rfl, vint v2, SqL.of h, hv, q v P H (Al.refl s) dn⟩)
  · obtain ⟨a, vs, rfl, h, l⟩ := vrol s v1
    obtain ⟨v, hv, dn⟩ := atI_den l hf
    exact .inl (.inl ⟨a, vs, _, v, rfl, vint v2, h, hv, q v P H (Al.refl s) dn⟩)
  · obtain ⟨a, vs, rfl, h, l⟩ := vtup s v1
    obtain ⟨v, hv, dn⟩ := atI_den l hf
    exact .inl (.inr (.inl ⟨a, vs, _, v, rfl, vint v2, h, hv, q v P H (Al.refl s) dn⟩))
  · rename_i z i
    split at hf
    · rename_i hz
      cases e : atI z i with
      | none => rw [e] at hf; cases hf
      | some c =>
        rw [e] at hf
        cases hf
        exact .inl (.inr (.inr ⟨sT z, i, c, vstr v1, vint v2, by rw [sT_len]; exact szOf hz, by rw [sT_cps]; exact e, q _ P H (Al.refl s) dstr⟩))
    · cases hf
  · obtain ⟨a, ws, rfl, h, k, l⟩ := v1
    obtain ⟨v, hv, dn⟩ := kLook_v k l hf
    rw [vint v2]
    exact .inr ⟨a, v, rfl, by rw [← hv]; exact DGet.k (k := .inl _) h, q v P H (Al.refl s) dn⟩
  · obtain ⟨a, ws, rfl, h, k, l⟩ := v1
    obtain ⟨v, hv, dn⟩ := kLook_v k l hf
    rw [vstr v2]
    exact .inr ⟨a, v, rfl, by rw [← hv]; exact DGet.k (k := .inr _) h, q v P H (Al.refl s) dn⟩
  · cases hf
section
variable {X : Cx} {E : WX} {a b c : Expr} {A B C : HM} {pos : Pos}
theorem ev_ix {r : R2} {f : D → D → Option D} (hr : IxR X r) (hf : Op2V X.K r f) (ha : EH X E a A) (hb : EH X E b B) (hs : PlainIx b) : EV X E (.Subscript a b pos) (e2 f A B) :=
  PE.imp (pe_ix hr ha hb hs) fun σ H Q h => by
    obtain ⟨P, W, ρ, w, g⟩ := r2_of (G := fun r ρ => .ok (r, ρ)) h
    exact ⟨P, W, ρ, w, g.mono fun x H1 ⟨P1, W1, ρ1, w1, g1⟩ => ⟨P1, W1, ρ1, w1, g1.mono fun y H2 ⟨P2, W2, ρ2, d, e, res, w2, v1, v2, hfe, g2⟩ =>
      hf P2 H2 x y d e res Q w2.same v1 v2 hfe (fin_v w2 g2)⟩⟩
end
/-! slices -/
def cutD {α : Type} (xs : List α) (lo hi : Option Int) : List α := (xs.drop (HT.sIx xs.length 0 lo)).take (HT.sIx xs.length xs.length hi - HT.sIx xs.length 0 lo)
def fCut (lo hi : Option Int) : D → Option D
  | .lst ds => some (.lst (cutD ds lo hi))
  | .rol ds => some (.lst (cutD ds lo hi))
  | .tup ds => some (.tup (cutD ds lo hi))
  | .str z => if z.length ≤ 1000000 then some (.str (cutD z lo hi)) else none
  | _ => none
def lCut (lo hi : Option Int) : D → Option (List D)
  | .lst ds => some (cutD ds lo hi)
  | .rol ds => some (cutD ds lo hi)
  | _ => none
def intOf : D → Option Int
  | .int i => some i
  | _ => none
def oN : Env → Res (Option Int × Env) := fun ρ => .ok (none, ρ)
def oS (F : EM) : Env → Res (Option Int × Env) := fun ρ => F ρ >>= fun a => Res.of (intOf a.1) >>= fun i => .ok (some i, a.2)
def eCut (A : HM) (lo hi : Env → Res (Option Int × Env)) : EM := fun ρ => A ρ >>= fun a => lo a.2 >>= fun l => hi l.2 >>= fun u => Res.of ((getH a.1 u.2).bind (fCut l.1 u.1)) >>= fun r => .ok (r, u.2)
def tCut (A : HM) (lo hi : Env → Res (Option Int × Env)) : OM := fun ρ => A ρ >>= fun a => lo a.2 >>= fun l => hi l.2 >>= fun u => Res.of ((getH a.1 u.2).bind (lCut l.1 u.1)) >>= fun r => .ok (.lst r, u.2)
def ORel (K : PySem.W.Frag) (mg : Str → Option Value) (P : Hp) (W : Own) (H : Hp) (σ : St) (a : Option Int × Env) (v : Option Int) : Prop := Wd K mg P W H σ a.2 ∧ a.1 = v
def EO (X : Cx) (E : WX) (e : Option Expr) (F : Env → Res (Option Int × Env)) : Prop := PO X e (rX X.K X.mg E (ORel X.K X.mg) F)
theorem PO.imp {X : Cx} {e : Option Expr} {t t' : TO} (h : PO X e t) (q : ∀ σ H Q, t' σ H Q → t σ H Q) : PO X e t' := ⟨fun pins s σ H Q I hq => h.run pins s σ H Q I (q σ H Q hq)⟩
theorem intOf_some {d : D} {i : Int} (h : intOf d = some i) : d = .int i := by cases d <;> simp [intOf] at h; rw [h]
section
variable {X : Cx} {E : WX} {a b c : Expr} {A B C : HM} {pos : Pos}
theorem eo_n : EO X E none oN := PO.imp po_none fun σ H Q ⟨P, W, ρ, w, g⟩ => g none P W H (Step.refl P W H) ⟨w, rfl⟩
theorem eo_s {e : Expr} {F : EM} (h : EV X E e F) : EO X E (some e) (oS F) := PO.imp (po_some h) fun σ H Q ⟨P, W, ρ, w, g⟩ =>
  ⟨P, W, ρ, w, (Go.bind g).mono fun v H1 ⟨P1, W1, a, st, ⟨w1, d1⟩, k⟩ => by
    obtain ⟨i, e, k⟩ := Go.of k
    rw [intOf_some e] at d1
    unfold Den at d1
    exact ⟨i, d1, k (some i) P1 W1 H1 (Step.refl P1 W1 H1) ⟨w1, rfl⟩⟩⟩
def rSlX (K : PySem.W.Frag) : V → Option Int → Option Int → Hp → VK → Prop := fun x lo hi H Q => rSlL K x lo hi H Q ∨ rSlA K x lo hi H Q ∨ rSlS x lo hi H Q
theorem sl_X {X : Cx} : SlR X (rSlX X.K) := sl_list.or (sl_tupA.or sl_str)
theorem cutV_den {K : PySem.W.Frag} {P : Hp} {ds : List D} {vs : List V} {lo hi : Option Int} (l : DenL K P ds vs) : DenL K P (cutD ds lo hi) (cutV vs lo hi) := by
  unfold cutD cutV
  rw [l.len]
  exact DenL.take _ (DenL.drop _ l)
theorem cutS_of (z : Tx) (lo hi : Option Int) : cutS (sT z) lo hi = sT (cutD z lo hi) := by
  unfold cutS cutD sT
  simp [Str.length]
theorem f_cut {K : PySem.W.Frag} {P H : Hp} {x : V} {d res : D} {lo hi : Option Int} {Q : VK} (s : Same P H) (v1 : View K P H d x) (hf : fCut lo hi d = some res) (q : ∀ v P' H', Al P H P' H' → Den K P' res v → Q v H') : rSlX K x lo hi H Q := by
  unfold fCut at hf
  split at hf
  · cases hf
    obtain ⟨a, vs, rfl, h, l⟩ := vlst v1
    refine .inl ⟨a, vs, rfl, SqL.of h, fun p n => ?_⟩
    obtain ⟨al, dn⟩ := dnewL s n (cutV_den (lo := lo) (hi := hi) l)
    exact q _ _ _ al dn
  · cases hf
    obtain ⟨a, vs, rfl, h, l⟩ := vrol s v1
    refine .inl ⟨a, vs, rfl, h, fun p n => ?_⟩
    obtain ⟨al, dn⟩ := dnewL s n (cutV_den (lo := lo) (hi := hi) l)
    exact q _ _ _ al dn
  · cases hf
    have v1' := vtupD v1
    obtain ⟨a, vs, rfl, h, l⟩ := vtup s v1
    refine .inr (.inl ⟨a, vs, rfl, h, fun ⟨z1, z2⟩ => ?_, fun _ p n => ?_⟩)
    · refine q _ P H (Al.refl s) ?_
      rw [l.len] at z1 z2
      have : ∀ ds : List D, HT.sIx ds.length 0 lo = 0 → HT.sIx ds.length ds.length hi = ds.length → cutD ds lo hi = ds := fun ds e1 e2 => by
        unfold cutD; rw [e1, e2]; simp
      rw [this _ z1 z2]
      exact v1'
    · obtain ⟨al, dn⟩ := dnewT s n (cutV_den (lo := lo) (hi := hi) l)
      exact q _ _ _ al dn
  · split at hf
    · rename_i hz
      cases hf
      refine .inr (.inr ⟨_, vstr v1, by rw [sT_len]; exact szOf hz, ?_⟩)
      rw [cutS_of]
      exact q _ P H (Al.refl s) dstr
    · cases hf
  · cases hf
theorem l_cut {K : PySem.W.Frag} {P H : Hp} {x : V} {d : D} {res : List D} {lo hi : Option Int} {Q : VK} (s : Same P H) (v1 : View K P H d x) (hf : lCut lo hi d = some res) (q : ∀ p vs, H p = none → DenL K P res vs → Q (.ref p) (upd H p (.lst vs))) : rSlX K x lo hi H Q := by
  unfold lCut at hf
  split at hf
  · cases hf
    obtain ⟨a, vs, rfl, h, l⟩ := vlst v1
    exact .inl ⟨a, vs, rfl, SqL.of h, fun p n => q p _ n (cutV_den l)⟩
  · cases hf
    obtain ⟨a, vs, rfl, h, l⟩ := vrol s v1
    exact .inl ⟨a, vs, rfl, h, fun p n => q p _ n (cutV_den l)⟩
  · cases hf
theorem ev_cut {e : Expr} {lo hi : Option Expr} {p2 : Pos} {L U : Env → Res (Option Int × Env)} (he : EH X E e A) (hl : EO X E lo L) (hu : EO X E hi U) : EV X E (.Subscript e (.Slice lo hi none p2) pos) (eCut A L U) :=
  PE.imp (pe_slice sl_X he hl hu) fun σ H Q ⟨P, W, ρ, w, g⟩ =>
    ⟨P, W, ρ, w, (Go.bind g).mono fun x H1 ⟨P1, W1, a, s1, ⟨w1, k1⟩, g1⟩ => ⟨P1, W1, a.2, w1, (Go.bind g1).mono fun l H2 ⟨P2, W2, b, s2, ⟨w2, k2⟩, g2⟩ =>
      ⟨P2, W2, b.2, w2, (Go.bind g2).mono fun u H3 ⟨P3, W3, c, s3, ⟨w3, k3⟩, g3⟩ => by
        obtain ⟨r, e, g4⟩ := Go.of g3
        obtain ⟨d, hd, hf⟩ := opt1 e
        subst k2; subst k3
        exact f_cut w3.same (Hok.view w3 (Hok.step (s2.trans s3).1 k1) hd) hf (fin_v w3 g4)⟩⟩⟩
theorem et_cut {e : Expr} {lo hi : Option Expr} {p2 : Pos} {L U : Env → Res (Option Int × Env)} (he : EH X E e A) (hl : EO X E lo L) (hu : EO X E hi U) : ET X E (.Subscript e (.Slice lo hi none p2) pos) (tCut A L U) :=
  PE.imp (pe_slice sl_X he hl hu) fun σ H Q ⟨P, W, ρ, w, g⟩ =>
    ⟨P, W, ρ, w, (Go.bind g).mono fun x H1 ⟨P1, W1, a, s1, ⟨w1, k1⟩, g1⟩ => ⟨P1, W1, a.2, w1, (Go.bind g1).mono fun l H2 ⟨P2, W2, b, s2, ⟨w2, k2⟩, g2⟩ =>
      ⟨P2, W2, b.2, w2, (Go.bind g2).mono fun u H3 ⟨P3, W3, c, s3, ⟨w3, k3⟩, g3⟩ => by
        obtain ⟨r, e, g4⟩ := Go.of g3
        obtain ⟨d, hd, hf⟩ := opt1 e
        subst k2; subst k3
        exact l_cut w3.same (Hok.view w3 (Hok.step (s2.trans s3).1 k1) hd) hf (fin_l w3 g4)⟩⟩⟩
end
/-! ### tests -/
def bVal (F : EM) : BM := fun ρ => F ρ >>= fun a => match a.1 with
  | .bl b => .ok (b, a.2)
  | _ => .fail
def bNot (F : BM) : BM := fun ρ => F ρ >>= fun a => .ok (!a.1, a.2)
def bAnd (F G : BM) : BM := fun ρ => F ρ >>= fun a => if a.1 then G a.2 else .ok (false, a.2)
def bOr (F G : BM) : BM := fun ρ => F ρ >>= fun a => if a.1 then .ok (true, a.2) else G a.2
def eIf (T : BM) (A B : EM) : EM := fun ρ => T ρ >>= fun a => if a.1 then A a.2 else B a.2
/-- and, or of truths, as values -/
def eAnd (A B : EM) : EM := fun ρ => A ρ >>= fun a => match a.1 with
  | .bl true => B a.2
  | .bl false => .ok (.bl false, a.2)
  | _ => .fail
def eOr (A B : EM) : EM := fun ρ => A ρ >>= fun a => match a.1 with
  | .bl true => .ok (.bl true, a.2)
  | .bl false => B a.2
  | _ => .fail
def eNot (A : EM) : EM := fun ρ => A ρ >>= fun a => match a.1 with
  | .bl b => .ok (.bl (!b), a.2)
  | _ => .fail
def EW (X : Cx) (E : WX) (e : Expr) (F : BM) : Prop := PW X e (rB X.K X.mg E F)
theorem PW.imp {X : Cx} {e : Expr} {t t' : TT} (h : PW X e t) (q : ∀ σ H Q, t' σ H Q → t σ H Q) : PW X e t' := ⟨fun wh pins s σ H Q I hq => h.run wh pins s σ H Q I (q σ H Q hq)⟩
section
variable {X : Cx} {E : WX} {a b c : Expr} {F G : BM} {A B : EM} {pos : Pos} {rest : List Expr}
theorem eb_val {e : Expr} (h : EV X E e A) (he : ∀ whole, isTrue e X.env whole = (do let v ← whole; standAt e.pos; holding [v] (truthy v)) := by intro _; rfl) : EB X E e (bVal A) :=
  PT.imp (pt_val h he) fun σ H Q ⟨P, W, ρ, w, g⟩ => ⟨P, W, ρ, w, (Go.bindB g).mono fun v H1 ⟨P1, W1, a, st, ⟨w1, d1⟩, k⟩ => by
    obtain ⟨d, ρ1⟩ := a
    cases d with
    | bl b =>
      unfold Den at d1
      exact ⟨b, d1, k P1 W1 H1 (Step.refl P1 W1 H1) w1⟩
    | _ => exact k.elim⟩
theorem eb_not (h : EB X E a F) : EB X E (.UnaryOp .Not a pos) (bNot F) :=
  PT.imp (pt_not h) fun σ H Q ⟨P, W, ρ, w, g⟩ => ⟨P, W, ρ, w, (GoB.bindB g).mono fun b H1 ⟨P1, W1, ρ1, st, w1, k⟩ => k P1 W1 H1 (Step.refl P1 W1 H1) w1⟩
theorem eb_w (h : EW X E a F) : EB X E a F := h.pt
theorem ew_and1 (h : EB X E a F) : EW X E (.BoolOp .And [a] pos) F := pw_and1 h
theorem ew_or1 (h : EB X E a F) : EW X E (.BoolOp .Or [a] pos) F := pw_or1 h
theorem ew_and (h : EB X E a F) (g : EW X E (.BoolOp .And (b :: rest) pos) G) : EW X E (.BoolOp .And (a :: b :: rest) pos) (bAnd F G) :=
  PW.imp (pw_and h g) fun σ H Q ⟨P, W, ρ, w, g⟩ => ⟨P, W, ρ, w, (GoB.bindB g).mono fun b H1 ⟨P1, W1, ρ1, st, w1, k⟩ => by
    cases b with
    | true => exact ⟨P1, W1, ρ1, w1, k⟩
    | false => exact k P1 W1 H1 (Step.refl P1 W1 H1) w1⟩
theorem ew_or (h : EB X E a F) (g : EW X E (.BoolOp .Or (b :: rest) pos) G) : EW X E (.BoolOp .Or (a :: b :: rest) pos) (bOr F G) :=
  PW.imp (pw_or h g) fun σ H Q ⟨P, W, ρ, w, g⟩ => ⟨P, W, ρ, w, (GoB.bindB g).mono fun b H1 ⟨P1, W1, ρ1, st, w1, k⟩ => by
    cases b with
    | true => exact k P1 W1 H1 (Step.refl P1 W1 H1) w1
    | false => exact ⟨P1, W1, ρ1, w1, k⟩⟩
theorem ev_one {op} (h : EV X E a A) : EV X E (.BoolOp op [a] pos) A := pe_one h
theorem ev_and (h : EV X E a A) (g : EV X E (.BoolOp .And (b :: rest) pos) B) : EV X E (.BoolOp .And (a :: b :: rest) pos) (eAnd A B) :=
  PE.imp (pe_and h g) fun σ H Q ⟨P, W, ρ, w, g⟩ => ⟨P, W, ρ, w, (Go.bind g).mono fun v H1 ⟨P1, W1, a, st, ⟨w1, d1⟩, k⟩ => by
    obtain ⟨d, ρ1⟩ := a
    cases d with
    | bl b =>
      unfold Den at d1
      refine ⟨b, d1, ?_⟩
      cases b with
      | true => exact ⟨P1, W1, ρ1, w1, k⟩
      | false => exact k (.bl false) P1 W1 H1 (Step.refl P1 W1 H1) ⟨w1, by unfold Den; rfl⟩
    | _ => exact k.elim⟩
theorem ev_or (h : EV X E a A) (g : EV X E (.BoolOp .Or (b :: rest) pos) B) : EV X E (.BoolOp .Or (a :: b :: rest) pos) (eOr A B) :=
  PE.imp (pe_or h g) fun σ H Q ⟨P, W, ρ, w, g⟩ => ⟨P, W, ρ, w, (Go.bind g).mono fun v H1 ⟨P1, W1, a, st, ⟨w1, d1⟩, k⟩ => by
    obtain ⟨d, ρ1⟩ := a
    cases d with
    | bl b =>
      unfold Den at d1
      refine ⟨b, d1, ?_⟩
      cases b with
      | false => exact ⟨P1, W1, ρ1, w1, k⟩
      | true => exact k (.bl true) P1 W1 H1 (Step.refl P1 W1 H1) ⟨w1, by unfold Den; rfl⟩
    | _ => exact k.elim⟩
theorem ev_not (h : EV X E a A) : EV X E (.UnaryOp .Not a pos) (eNot A) :=
  PE.imp (pe_not h) fun σ H Q ⟨P, W, ρ, w, g⟩ => ⟨P, W, ρ, w, (Go.bind g).mono fun v H1 ⟨P1, W1, a, st, ⟨w1, d1⟩, k⟩ => by
    obtain ⟨d, ρ1⟩ := a
    cases d with
    | bl b =>
      unfold Den at d1
      exact ⟨b, d1, k (.bl (!b)) P1 W1 H1 (Step.refl P1 W1 H1) ⟨w1, by unfold Den; rfl⟩⟩
    | _ => exact k.elim⟩
theorem ev_if (h : EB X E c F) (ha : EV X E a A) (hb : EV X E b B) : EV X E (.IfExp c a b pos) (eIf F A B) :=
  PE.imp (pe_ifExp h ha hb) fun σ H Q ⟨P, W, ρ, w, g⟩ => ⟨P, W, ρ, w, (GoB.bind g).mono fun b H1 ⟨P1, W1, ρ1, st, w1, k⟩ => by
    cases b with
    | true => exact ⟨P1, W1, ρ1, w1, k⟩
    | false => exact ⟨P1, W1, ρ1, w1, k⟩⟩
/-- a op1 b op2 c -/
def eChain (f g : D → D → Option Bool) (A B C : HM) : EM := fun ρ => A ρ >>= fun a => B a.2 >>= fun b => Res.of ((getH a.1 b.2).bind fun d => (getH b.1 b.2).bind fun e => f d e) >>= fun r =>
  if r then C b.2 >>= fun c => Res.of ((getH b.1 c.2).bind fun d => (getH c.1 c.2).bind fun e => g d e) >>= fun r2 => .ok (.bl r2, c.2) else .ok (.bl false, b.2)
def bChain (f g : D → D → Option Bool) (A B C : HM) : BM := bVal (eChain f g A B C)
theorem chain_red {r r' : R2} {f g : D → D → Option Bool} {A B C : HM} {σ : St} {H : Hp} {Q : VK} {K : PySem.W.Frag} {mg : Str → Option Value} (hf : Op2B K r f) (hg : Op2B K r' g) (h : rX K mg E (VRel K mg) (eChain f g A B C) σ H Q) :
    tChain r r' (rX K mg E (HRel K mg) A) (rX K mg E (HRel K mg) B) (rX K mg E (HRel K mg) C) σ H Q := by
  obtain ⟨P, W, ρ, w, k⟩ := h
  refine ⟨P, W, ρ, w, (Go.bind k).mono fun x H1 ⟨P1, W1, a, s1, ⟨w1, k1⟩, g1⟩ => ⟨P1, W1, a.2, w1, (Go.bind g1).mono fun y H2 ⟨P2, W2, b, s2, ⟨w2, k2⟩, g2⟩ => ?_⟩⟩
  obtain ⟨t, e, g3⟩ := Go.of g2
  obtain ⟨d, e', ha, hb, hfe⟩ := opt2 e
  refine hf P2 H2 x y d e' t _ w2.same (Hok.view w2 (Hok.step s2.1 k1) ha) (Hok.view w2 k2 hb) hfe ⟨t, rfl, ?_⟩
  cases t with
  | false => exact g3 (.bl false) P2 W2 H2 (Step.refl P2 W2 H2) ⟨w2, by unfold Den; rfl⟩
  | true =>
    refine ⟨P2, W2, b.2, w2, (Go.bind g3).mono fun z H3 ⟨P3, W3, c, s3, ⟨w3, k3⟩, g4⟩ => ?_⟩
    obtain ⟨t2, e2, g5⟩ := Go.of g4
    obtain ⟨d2, e2', hb2, hc2, hge⟩ := opt2 e2
    exact hg P3 H3 y z d2 e2' t2 _ w3.same (Hok.view w3 (Hok.step s3.1 k2) hb2) (Hok.view w3 k3 hc2) hge (g5 (.bl t2) P3 W3 H3 (Step.refl P3 W3 H3) ⟨w3, by unfold Den; rfl⟩)
theorem ev_chain {op op' : CmpOp} {r r' : R2} {f g : D → D → Option Bool} {A B C : HM} (ho : OpR X (compareOp op) r) (hf : Op2B X.K r f) (ho' : OpR X (compareOp op') r') (hg : Op2B X.K r' g) (ha : EH X E a A) (hb : EH X E b B) (hc : EH X E c C)
    (hm : lastMarks [op, op'] [b, c] = false := by with_unfolding_all rfl) : EV X E (.Compare a [op, op'] [b, c] pos) (eChain f g A B C) :=
  PE.imp (pe_chain ho ho' ha hb hc hm) fun σ H Q h => chain_red hf hg h
theorem eb_chain {op op' : CmpOp} {r r' : R2} {f g : D → D → Option Bool} {A B C : HM} (ho : OpR X (compareOp op) r) (hf : Op2B X.K r f) (ho' : OpR X (compareOp op') r') (hg : Op2B X.K r' g) (ha : EH X E a A) (hb : EH X E b B) (hc : EH X E c C)
    (hm : lastMarks [op, op'] [b, c] = false := by with_unfolding_all rfl) : EB X E (.Compare a [op, op'] [b, c] pos) (bChain f g A B C) :=
  PT.imp (pt_chain ho ho' ha hb hc hm) fun σ H Q ⟨P, W, ρ, w, g0⟩ => by
    refine chain_red (Q := fun x H1 => ∃ k, x = .bl k ∧ Q k H1) hf hg ⟨P, W, ρ, w, (Go.bindB g0).mono fun v H1 ⟨P1, W1, a, st, ⟨w1, d1⟩, k⟩ => ?_⟩
    obtain ⟨d, ρ1⟩ := a
    cases d with
    | bl b =>
      unfold Den at d1
      exact ⟨b, d1, k P1 W1 H1 (Step.refl P1 W1 H1) w1⟩
    | _ => exact k.elim
end
end Od
namespace Od
open PySem PySem.Spec L2
open PyProof.Rows hiding St
/-! ### lists of arguments -/
def hL : List HM → Env → Res (List Hd × Env)
  | [], ρ => .ok ([], ρ)
  | A :: As, ρ => A ρ >>= fun a => hL As a.2 >>= fun r => .ok (a.1 :: r.1, r.2)
def vL : List EM → Env → Res (List D × Env)
  | [], ρ => .ok ([], ρ)
  | A :: As, ρ => A ρ >>= fun a => vL As a.2 >>= fun r => .ok (a.1 :: r.1, r.2)
def getL : List Hd → Env → Option (List D)
  | [], _ => some []
  | h :: hs, ρ => (getH h ρ).bind fun d => (getL hs ρ).bind fun ds => some (d :: ds)
section
variable (K : PySem.W.Frag) (mg : Str → Option Value)
def HokL (P : Hp) (σ : St) : List Hd → List V → Prop
  | [], vs => vs = []
  | h :: hs, vs => ∃ v r, vs = v :: r ∧ Hok K P σ h v ∧ HokL P σ hs r
def ViewL (P H : Hp) : List D → List V → Prop
  | [], vs => vs = []
  | d :: ds, vs => ∃ v r, vs = v :: r ∧ View K P H d v ∧ ViewL P H ds r
def HLRel (P : Hp) (W : Own) (H : Hp) (σ : St) (a : List Hd × Env) (vs : List V) : Prop := Wd K mg P W H σ a.2 ∧ HokL K P σ a.1 vs
def VLRel (P : Hp) (W : Own) (H : Hp) (σ : St) (a : List D × Env) (vs : List V) : Prop := Wd K mg P W H σ a.2 ∧ DenL K P a.1 vs
end
def EAH (X : Cx) (E : WX) (es : List Expr) (As : List HM) : Prop := PA X es (rX X.K X.mg E (HLRel X.K X.mg) (hL As))
def EAV (X : Cx) (E : WX) (es : List Expr) (As : List EM) : Prop := PA X es (rX X.K X.mg E (VLRel X.K X.mg) (vL As))
section
variable {K : PySem.W.Frag} {mg : Str → Option Value} {P P' H H' : Hp} {W W' : Own} {σ : St} {ρ : Env}
theorem HokL.step (s : Same P P') : ∀ {hs : List Hd} {vs : List V}, HokL K P σ hs vs → HokL K P' σ hs vs
  | [], vs, h => h
  | h0 :: hs, vs, h => by
    obtain ⟨v, r, e, h1, h2⟩ := h
    exact ⟨v, r, e, Hok.step s h1, HokL.step s h2⟩
theorem HokL.view (w : Wd K mg P W H σ ρ) : ∀ {hs : List Hd} {vs : List V} {ds : List D}, HokL K P σ hs vs → getL hs ρ = some ds → ViewL K P H ds vs
  | [], vs, ds, h, g => by
    have : ([] : List D) = ds := Option.some.inj g
    subst this
    exact h
  | h0 :: hs, vs, ds, h, g => by
    obtain ⟨v, r, e, h1, h2⟩ := h
    unfold getL at g
    obtain ⟨d, g1, g2⟩ := opt1 g
    cases e3 : getL hs ρ with
    | none => rw [e3] at g2; cases g2
    | some ds' =>
      rw [e3] at g2
      have : d :: ds' = ds := Option.some.inj g2
      subst this
      exact ⟨v, r, e, Hok.view w h1 g1, HokL.view w h2 e3⟩
end
section
variable {X : Cx} {E : WX} {e : Expr} {es : List Expr}
theorem eah_nil : EAH X E [] [] := PA.imp pa_nil fun σ H Q ⟨P, W, ρ, w, g⟩ => g [] P W H (Step.refl P W H) ⟨w, rfl⟩
theorem eah_cons {A : HM} {As : List HM} (ha : EH X E e A) (hr : EAH X E es As) (hs : starEach (e :: es) X.env = (false, eval e X.env) :: starEach es X.env := by rfl) : EAH X E (e :: es) (A :: As) :=
  PA.imp (pa_cons ha hr hs) fun σ H Q ⟨P, W, ρ, w, g⟩ => ⟨P, W, ρ, w, (Go.bind g).mono fun x H1 ⟨P1, W1, a, s1, ⟨w1, k1⟩, g1⟩ => ⟨P1, W1, a.2, w1, (Go.bind g1).mono fun vs H2 ⟨P2, W2, b, s2, ⟨w2, k2⟩, g2⟩ =>
    g2 (x :: vs) P2 W2 H2 (Step.refl P2 W2 H2) ⟨w2, x, vs, rfl, Hok.step s2.1 k1, k2⟩⟩⟩
theorem eav_nil : EAV X E [] [] := PA.imp pa_nil fun σ H Q ⟨P, W, ρ, w, g⟩ => g [] P W H (Step.refl P W H) ⟨w, DenL.nil⟩
theorem eav_cons {A : EM} {As : List EM} (ha : EV X E e A) (hr : EAV X E es As) (hs : starEach (e :: es) X.env = (false, eval e X.env) :: starEach es X.env := by rfl) : EAV X E (e :: es) (A :: As) :=
  PA.imp (pa_cons ha hr hs) fun σ H Q ⟨P, W, ρ, w, g⟩ => ⟨P, W, ρ, w, (Go.bind g).mono fun x H1 ⟨P1, W1, a, s1, ⟨w1, k1⟩, g1⟩ => ⟨P1, W1, a.2, w1, (Go.bind g1).mono fun vs H2 ⟨P2, W2, b, s2, ⟨w2, k2⟩, g2⟩ =>
    g2 (x :: vs) P2 W2 H2 (Step.refl P2 W2 H2) ⟨w2, DenL.cons (Den.mono s2.1 _ _ k1) k2⟩⟩⟩
end
/-! ### displays -/
def eTup (As : List EM) : EM := fun ρ => vL As ρ >>= fun a => if a.1.length ≤ 1000000 then .ok (.tup a.1, a.2) else .fail
def tLst (As : List EM) : OM := fun ρ => vL As ρ >>= fun a => if a.1.length ≤ 1000000 then .ok (.lst a.1, a.2) else .fail
section
variable {X : Cx} {E : WX} {es : List Expr} {As : List EM} {pos : Pos}
theorem ev_tup {k} (h : EAV X E es As) : EV X E (.Tuple es k pos) (eTup As) := PE.imp (pe_tup h) fun σ H Q ⟨P, W, ρ, w, g⟩ =>
  ⟨P, W, ρ, w, (Go.bind g).mono fun vs H1 ⟨P1, W1, a, s1, ⟨w1, k1⟩, g1⟩ => by
    split at g1
    · rename_i hl
      refine ⟨by rw [k1.len]; exact szOf hl, fun p n => ?_⟩
      obtain ⟨al, dn⟩ := dnewT w1.same n k1
      exact fin_v w1 g1 _ _ _ al dn
    · exact g1.elim⟩
theorem et_lst (h : EAV X E es As) : ET X E (.List es pos) (tLst As) := PE.imp (pe_lst h) fun σ H Q ⟨P, W, ρ, w, g⟩ =>
  ⟨P, W, ρ, w, (Go.bind g).mono fun vs H1 ⟨P1, W1, a, s1, ⟨w1, k1⟩, g1⟩ => by
    split at g1
    · rename_i hl
      exact ⟨by rw [k1.len]; exact szOf hl, fun p n => fin_l w1 g1 p _ n k1⟩
    · exact g1.elim⟩
end
/-! ### calls of built-ins -/
def eCB (f : List D → Option D) (As : List HM) : EM := fun ρ => hL As ρ >>= fun a => Res.of ((getL a.1 a.2).bind f) >>= fun r => .ok (r, a.2)
def tCBL (f : List D → Option (List D)) (As : List HM) : OM := fun ρ => hL As ρ >>= fun a => Res.of ((getL a.1 a.2).bind f) >>= fun r => .ok (.lst r, a.2)
def CbV (K : PySem.W.Frag) (r : List V → Hp → VK → Prop) (f : List D → Option D) : Prop := ∀ (P H : Hp) (vs : List V) (ds : List D) (res : D) (Q : VK), Same P H → ViewL K P H ds vs → f ds = some res → (∀ v P' H', Al P H P' H' → Den K P' res v → Q v H') → r vs H Q
def CbL (K : PySem.W.Frag) (r : List V → Hp → VK → Prop) (f : List D → Option (List D)) : Prop := ∀ (P H : Hp) (vs : List V) (ds : List D) (res : List D) (Q : VK), Same P H → ViewL K P H ds vs → f ds = some res → (∀ p vs, H p = none → DenL K P res vs → Q (.ref p) (upd H p (.lst vs))) → r vs H Q
theorem optL {α : Type} {f : List D → Option α} {a : Option (List D)} {r : α} (h : a.bind f = some r) : ∃ d, a = some d ∧ f d = some r := by
  cases a with
  | none => cases h
  | some d => exact ⟨d, rfl, h⟩
section
variable {X : Cx} {E : WX} {e : Expr} {As : List HM} {r : List V → Hp → VK → Prop}
theorem ev_cb {f : List D → Option D} (hf : CbV X.K r f) (hp : PE X e (L2.tCB r (rX X.K X.mg E (HLRel X.K X.mg) (hL As)))) : EV X E e (eCB f As) := PE.imp hp fun σ H Q ⟨P, W, ρ, w, g⟩ =>
  ⟨P, W, ρ, w, (Go.bind g).mono fun vs H1 ⟨P1, W1, a, s1, ⟨w1, k1⟩, g1⟩ => by
    obtain ⟨res, e, g2⟩ := Go.of g1
    obtain ⟨ds, hd, hfe⟩ := optL e
    exact hf P1 H1 vs ds res Q w1.same (HokL.view w1 k1 hd) hfe (fin_v w1 g2)⟩
theorem et_cb {f : List D → Option (List D)} (hf : CbL X.K r f) (hp : PE X e (L2.tCB r (rX X.K X.mg E (HLRel X.K X.mg) (hL As)))) : ET X E e (tCBL f As) := PE.imp hp fun σ H Q ⟨P, W, ρ, w, g⟩ =>
  ⟨P, W, ρ, w, (Go.bind g).mono fun vs H1 ⟨P1, W1, a, s1, ⟨w1, k1⟩, g1⟩ => by
    obtain ⟨res, e, g2⟩ := Go.of g1
    obtain ⟨ds, hd, hfe⟩ := optL e
    exact hf P1 H1 vs ds res Q w1.same (HokL.view w1 k1 hd) hfe (fin_l w1 g2)⟩
end
/-! methods that change nothing -/
inductive Ty where | str | lst | dct | tup
def Ty.name : Ty → String
  | .str => "str" | .lst => "list" | .dct => "dict" | .tup => "tuple"
def isTy : Ty → D → Bool
  | .str, .str _ => true
  | .lst, .lst _ => true
  | .lst, .rol _ => true
  | .dct, .dct _ _ => true
  | _, _ => false
theorem tyV_of {K : PySem.W.Frag} {P H : Hp} {t : Ty} {d : D} {v : V} (s : Same P H) (h : View K P H d v) (ht : isTy t d = true) : L2.tyV K t.name v H := by
  unfold isTy at ht
  split at ht
  · rw [vstr h]; exact rfl
  · obtain ⟨a, vs, rfl, q, l⟩ := vlst h
    exact .inl ⟨rfl, vs, SqL.of q⟩
  · obtain ⟨a, vs, rfl, q, l⟩ := vrol s h
    exact .inl ⟨rfl, vs, q⟩
  · obtain ⟨a, ws, rfl, q, _⟩ := h
    exact .inr (.inr (.inl ⟨rfl, .inl ⟨ws, q⟩⟩))
  · cases ht
def eBM (t : Ty) (f : D → List D → Option D) (A : HM) (As : List HM) : EM := fun ρ => A ρ >>= fun a => if ((getH a.1 a.2).map (isTy t)) = some true then
    hL As a.2 >>= fun b => Res.of ((getH a.1 b.2).bind fun d => (getL b.1 b.2).bind fun ds => f d ds) >>= fun r => .ok (r, b.2) else .fail
def tBML (t : Ty) (f : D → List D → Option (List D)) (A : HM) (As : List HM) : OM := fun ρ => A ρ >>= fun a => if ((getH a.1 a.2).map (isTy t)) = some true then
    hL As a.2 >>= fun b => Res.of ((getH a.1 b.2).bind fun d => (getL b.1 b.2).bind fun ds => f d ds) >>= fun r => .ok (.lst r, b.2) else .fail
def MtV (K : PySem.W.Frag) (r : V → List V → Hp → VK → Prop) (f : D → List D → Option D) : Prop := ∀ (P H : Hp) (x : V) (vs : List V) (d : D) (ds : List D) (res : D) (Q : VK), Same P H → View K P H d x → ViewL K P H ds vs → f d ds = some res → (∀ v P' H', Al P H P' H' → Den K P' res v → Q v H') → r x vs H Q
def MtL (K : PySem.W.Frag) (r : V → List V → Hp → VK → Prop) (f : D → List D → Option (List D)) : Prop := ∀ (P H : Hp) (x : V) (vs : List V) (d : D) (ds : List D) (res : List D) (Q : VK), Same P H → View K P H d x → ViewL K P H ds vs → f d ds = some res → (∀ p vs, H p = none → DenL K P res vs → Q (.ref p) (upd H p (.lst vs))) → r x vs H Q
theorem optM {α : Type} {f : D → List D → Option α} {a : Option D} {b : Option (List D)} {r : α} (h : (a.bind fun d => b.bind fun ds => f d ds) = some r) : ∃ d ds, a = some d ∧ b = some ds ∧ f d ds = some r := by
  cases a with
  | none => cases h
  | some d =>
    cases b with
    | none => cases h
    | some e => exact ⟨d, e, rfl, rfl, h⟩
theorem ty_of {t : Ty} {o : Option D} (h : o.map (isTy t) = some true) : ∃ d, o = some d ∧ isTy t d = true := by
  cases o with
  | none => cases h
  | some d => exact ⟨d, rfl, Option.some.inj h⟩
section
variable {X : Cx} {E : WX} {e : Expr} {A : HM} {As : List HM} {r : V → List V → Hp → VK → Prop} {t : Ty}
theorem ev_bm {f : D → List D → Option D} (hf : MtV X.K r f) (hp : PE X e (tBM X.K t.name r (rX X.K X.mg E (HRel X.K X.mg) A) (rX X.K X.mg E (HLRel X.K X.mg) (hL As)))) : EV X E e (eBM t f A As) := PE.imp hp fun σ H Q ⟨P, W, ρ, w, g⟩ =>
  ⟨P, W, ρ, w, (Go.bind g).mono fun x H1 ⟨P1, W1, a, s1, ⟨w1, k1⟩, g1⟩ => by
    split at g1
    · rename_i ht
      obtain ⟨d1, hd1, ht⟩ := ty_of ht
      refine ⟨tyV_of w1.same (Hok.view w1 k1 hd1) ht, P1, W1, a.2, w1, (Go.bind g1).mono fun vs H2 ⟨P2, W2, b, s2, ⟨w2, k2⟩, g2⟩ => ?_⟩
      obtain ⟨res, e, g3⟩ := Go.of g2
      obtain ⟨d, ds, h1, h2, hfe⟩ := optM e
      exact hf P2 H2 x vs d ds res Q w2.same (Hok.view w2 (Hok.step s2.1 k1) h1) (HokL.view w2 k2 h2) hfe (fin_v w2 g3)
    · exact g1.elim⟩
theorem et_bm {f : D → List D → Option (List D)} (hf : MtL X.K r f) (hp : PE X e (tBM X.K t.name r (rX X.K X.mg E (HRel X.K X.mg) A) (rX X.K X.mg E (HLRel X.K X.mg) (hL As)))) : ET X E e (tBML t f A As) := PE.imp hp fun σ H Q ⟨P, W, ρ, w, g⟩ =>
  ⟨P, W, ρ, w, (Go.bind g).mono fun x H1 ⟨P1, W1, a, s1, ⟨w1, k1⟩, g1⟩ => by
    split at g1
    · rename_i ht
      obtain ⟨d1, hd1, ht⟩ := ty_of ht
      refine ⟨tyV_of w1.same (Hok.view w1 k1 hd1) ht, P1, W1, a.2, w1, (Go.bind g1).mono fun vs H2 ⟨P2, W2, b, s2, ⟨w2, k2⟩, g2⟩ => ?_⟩
      obtain ⟨res, e, g3⟩ := Go.of g2
      obtain ⟨d, ds, h1, h2, hfe⟩ := optM e
      exact hf P2 H2 x vs d ds res Q w2.same (Hok.view w2 (Hok.step s2.1 k1) h1) (HokL.view w2 k2 h2) hfe (fin_l w2 g3)
    · exact g1.elim⟩
end
/-! ### methods that change a list of the variable's own -/
def eMut (i : Nat) (m : List D → List D → Option (List D × D)) (As : List EM) : EM := fun ρ => match ρ[i]? with
  | some (some (.lst _)) => vL As ρ >>= fun a => match a.2[i]? with
    | some (some (.lst ds)) => Res.of (m ds a.1) >>= fun r => .ok (r.2, a.2.set i (some (.lst r.1)))
    | _ => .fail
  | _ => .fail
def MutOk (K : PySem.W.Frag) (r : V → List V → Hp → VK → Prop) (m : List D → List D → Option (List D × D)) : Prop := ∀ (P H : Hp) (l : Addr) (vs avs : List V) (ds as ds' : List D) (d : D) (Q : VK), Same P H → H l = some (.lst vs) → DenL K P ds vs → DenL K P as avs → m ds as = some (ds', d) →
  (∀ v vs', DenL K P ds' vs' → Den K P d v → Q v (upd H l (.lst vs'))) → r (.ref l) avs H Q
section
variable {K : PySem.W.Frag} {mg : Str → Option Value} {P P' H H' : Hp} {W W' : Own} {σ : St} {ρ : Env}
theorem Wd.mut {i : Nat} {l : Addr} {o : HO} {t : T} (w : Wd K mg P W H σ ρ) (hl : i < ρ.length) (hs : σ[i]? = some (some (.ref l))) (hw : W l = some (some i, none)) (ht : RT K mg P W (upd H l o) (some i) t (.ref l)) :
    Wd K mg P W (upd H l o) σ (ρ.set i (some t)) ∧ Step P W H P W (upd H l o) := by
  have pl := (w.own l _ hw).1
  refine ⟨⟨fun a u e => ?_, fun a r e => ?_, fun j t' ej => ?_, by simpa using w.len⟩, same_refl P, fun a u h wa => ?_⟩
  · rw [upd_ne (ne_of_none e pl)]; exact w.same a u e
  · obtain ⟨h1, u, h2⟩ := w.own a r e
    refine ⟨h1, ?_⟩
    by_cases h : a = l
    · subst h; exact ⟨_, upd_same⟩
    · exact ⟨u, by rw [upd_ne h]; exact h2⟩
  · by_cases hj : j = i
    · subst hj
      rw [List.getElem?_set_self hl] at ej
      cases ej
      exact ⟨_, hs, ht⟩
    · rw [List.getElem?_set_ne (Ne.symm hj)] at ej
      obtain ⟨v, hs', hr⟩ := w.env j t' ej
      refine ⟨v, hs', RT.mono (same_refl P) (fun f x ex => ⟨ex, fun o h => ?_⟩) t' v hr⟩
      have hx : x ≠ l := fun z => by subst z; rw [hw] at ex; cases ex; exact hj rfl
      rw [upd_ne hx]; exact h
  · have ha : a ≠ l := fun z => by subst z; rw [hw] at wa; cases wa
    exact ⟨by rw [upd_ne ha]; exact h, wa, rfl⟩
theorem Wd.lstAt {i : Nat} {ds : List D} (w : Wd K mg P W H σ ρ) (e : ρ[i]? = some (some (.lst ds))) : ∃ l vs, σ[i]? = some (some (.ref l)) ∧ W l = some (some i, none) ∧ H l = some (.lst vs) ∧ DenL K P ds vs ∧ i < ρ.length := by
  obtain ⟨v, hs, hr⟩ := w.env i _ e
  obtain ⟨a, vs, rfl, hw, hh, l⟩ := hr
  exact ⟨a, vs, hs, hw, hh, l, (List.getElem?_eq_some_iff.mp e).1⟩
end
section
variable {X : Cx} {E : WX} {e : Expr} {As : List EM} {r : V → List V → Hp → VK → Prop} {i : Nat}
theorem mut_core {m : List D → List D → Option (List D × D)} {P H : Hp} {W : Own} {ρ : Env} {σ : St} {Q : VK} {ds0 : List D} (hf : MutOk X.K r m) (w : Wd X.K X.mg P W H σ ρ) (hs : σ[i]? = some (some (.ref l)))
    (g : Go X.K X.mg E (VRel X.K X.mg) (vL As ρ >>= fun a => match a.2[i]? with
    | some (some (T.lst ds)) => Res.of (m ds a.1) >>= fun r => Res.ok (r.2, a.2.set i (some (T.lst r.1)))
    | _ => .fail) P W H σ Q) : rX X.K X.mg E (VLRel X.K X.mg) (vL As) σ H fun vs H2 => r (.ref l) vs H2 Q :=
  ⟨P, W, ρ, w, (Go.bind g).mono fun avs H2 ⟨P2, W2, b, s2, ⟨w2, k2⟩, g2⟩ => by
    cases e : b.2[i]? with
    | none => rw [e] at g2; exact g2.elim
    | some o =>
      cases o with
      | none => rw [e] at g2; exact g2.elim
      | some t =>
        rw [e] at g2
        cases t with
        | lst ds =>
          simp only at g2
          obtain ⟨res, e3, g3⟩ := Go.of g2
          obtain ⟨l', vs, hs', hw, hh, dn, hi⟩ := w2.lstAt e
          rw [hs] at hs'
          cases hs'
          refine hf P2 H2 l vs avs ds b.1 res.1 res.2 Q w2.same hh dn k2 e3 fun v vs' dn' dv => ?_
          obtain ⟨w3, s3⟩ := w2.mut (o := .lst vs') (t := .lst res.1) hi hs hw ⟨l, vs', rfl, hw, upd_same, dn'⟩
          exact g3 v P2 W2 _ s3 ⟨w3, dv⟩
        | _ => exact g2.elim⟩
theorem ev_mut {m : List D → List D → Option (List D × D)} (hf : MutOk X.K r m) (hp : PE X e (tBM X.K "list" r (tVar i) (rX X.K X.mg E (VLRel X.K X.mg) (vL As)))) : EV X E e (eMut i m As) := PE.imp hp fun σ H Q ⟨P, W, ρ, w, g⟩ => by
  unfold eMut at g
  cases e : ρ[i]? with
  | none => rw [e] at g; exact g.elim
  | some o =>
    cases o with
    | none => rw [e] at g; exact g.elim
    | some t =>
      rw [e] at g
      cases t with
      | lst ds =>
        simp only at g
        obtain ⟨l, vs, hs, hw, hh, dn, hi⟩ := w.lstAt e
        exact ⟨.ref l, hs, .inl ⟨rfl, vs, SqL.of hh⟩, mut_core (ds0 := ds) hf w hs g⟩
      | _ => exact g.elim
end
def mAppend : List D → List D → Option (List D × D)
  | ds, [d] => if ds.length < 1000000 then some (ds ++ [d], .non) else none
  | _, _ => none
theorem DenL.one {K : PySem.W.Frag} {P : Hp} {d : D} {vs : List V} (h : DenL K P [d] vs) : ∃ v, vs = [v] ∧ Den K P d v := by
  unfold DenL at h
  obtain ⟨v, r, rfl, h1, h2⟩ := h
  unfold DenL at h2
  subst h2
  exact ⟨v, rfl, h1⟩
theorem DenL.two {K : PySem.W.Frag} {P : Hp} {d e : D} {vs : List V} (h : DenL K P [d, e] vs) : ∃ v u, vs = [v, u] ∧ Den K P d v ∧ Den K P e u := by
  unfold DenL at h
  obtain ⟨v, r, rfl, h1, h2⟩ := h
  obtain ⟨u, rfl, h3⟩ := DenL.one h2
  exact ⟨v, u, rfl, h1, h3⟩
section
variable {K : PySem.W.Frag}
theorem m_append : MutOk K rAppend mAppend := by
  intro P H l vs avs ds as ds' d Q s hh dn da hm q
  unfold mAppend at hm
  split at hm
  · split at hm
    · rename_i hl
      cases hm
      obtain ⟨v, rfl, dv⟩ := DenL.one da
      exact ⟨l, vs, v, rfl, rfl, hh, by rw [dn.len]; exact szLt hl, q .non _ (DenL.append dn (DenL.cons dv DenL.nil)) dnon⟩
    · cases hm
  · cases hm
end
end Od
namespace Od
open PySem PySem.Spec L2
open PyProof.Rows hiding St
/-! ### statements -/
inductive Fl where
  | nx (ρ : Env) | rt (t : T) (ρ : Env) | bk (ρ : Env) | ct (ρ : Env)
abbrev SM := Env → Res Fl
/-- slots of the parameters that are handed back keep their value -/
def Kp (md : List Bool) (σ σ' : St) : Prop := σ'.length = σ.length ∧ ∀ i : Nat, md[i]? = some true → σ'[i]? = σ[i]?
theorem Kp.refl (md : List Bool) (σ : St) : Kp md σ σ := ⟨rfl, fun _ _ => rfl⟩
theorem Kp.trans {md : List Bool} {σ σ1 σ2 : St} (a : Kp md σ σ1) (b : Kp md σ1 σ2) : Kp md σ σ2 := ⟨b.1.trans a.1, fun i h => (b.2 i h).trans (a.2 i h)⟩
def GoS (K : PySem.W.Frag) (mg : Str → Option Value) (E : WX) (md : List Bool) (r : Res Fl) (P : Hp) (W : Own) (H : Hp) (σ : St) (D : Ends) : Prop :=
  match r with
  | .ok (.nx ρ') => ∀ σ' P' W' H', Step P W H P' W' H' → Wd K mg P' W' H' σ' ρ' → Kp md σ σ' → D.nx σ' H'
  | .ok (.bk ρ') => ∀ σ' P' W' H', Step P W H P' W' H' → Wd K mg P' W' H' σ' ρ' → Kp md σ σ' → D.bk σ' H'
  | .ok (.ct ρ') => ∀ σ' P' W' H', Step P W H P' W' H' → Wd K mg P' W' H' σ' ρ' → Kp md σ σ' → D.ct σ' H'
  | .ok (.rt t ρ') => ∀ v σ' P' W' H', Step P W H P' W' H' → Wd K mg P' W' H' σ' ρ' → Kp md σ σ' → RT K mg P' W' H' none t v → D.rt v H'
  | .exc x ρ' => ∀ c od σ' P' W' H', Step P W H P' W' H' → Wd K mg P' W' H' σ' ρ' → Kp md σ σ' → XR K mg P' H' x c od → E c od σ' H'
  | .fail => False
def rS (K : PySem.W.Frag) (mg : Str → Option Value) (E : WX) (md : List Bool) (F : SM) : TS := fun D σ H => ∃ P W ρ, Wd K mg P W H σ ρ ∧ GoS K mg E md (F ρ) P W H σ D
def SD (X : Cx) (E : WX) (md : List Bool) (st : Stmt) (F : SM) : Prop := PS X st (rS X.K X.mg E md F)
def SDs (X : Cx) (E : WX) (md : List Bool) (st : List Stmt) (F : SM) : Prop := PSs X st (rS X.K X.mg E md F)
section
variable {K : PySem.W.Frag} {mg : Str → Option Value} {α γ : Type} {E : WX} {md : List Bool} {Rel : Hp → Own → Hp → St → α → γ → Prop} {P P' H H' : Hp} {W W' : Own} {σ σ' : St} {ρ : Env} {D D' : Ends}
theorem GoS.step {r : Res Fl} (s : Step P W H P' W' H') (k : Kp md σ σ') (h : GoS K mg E md r P W H σ D) : GoS K mg E md r P' W' H' σ' D := by
  cases r with
  | ok f =>
    cases f with
    | nx ρ' => exact fun σ2 P2 W2 H2 s2 w k2 => h σ2 P2 W2 H2 (s.trans s2) w (k.trans k2)
    | bk ρ' => exact fun σ2 P2 W2 H2 s2 w k2 => h σ2 P2 W2 H2 (s.trans s2) w (k.trans k2)
    | ct ρ' => exact fun σ2 P2 W2 H2 s2 w k2 => h σ2 P2 W2 H2 (s.trans s2) w (k.trans k2)
    | rt t ρ' => exact fun v σ2 P2 W2 H2 s2 w k2 => h v σ2 P2 W2 H2 (s.trans s2) w (k.trans k2)
  | exc x ρ' => exact fun c od σ2 P2 W2 H2 s2 w k2 => h c od σ2 P2 W2 H2 (s.trans s2) w (k.trans k2)
  | fail => exact h
/-- a value, then a statement's end -/
theorem GoS.val {r : Res α} {g : α → Res Fl} (h : GoS K mg E md (r >>= g) P W H σ D) :
    Go K mg E Rel r P W H σ (fun v1 H1 => ∃ P1 W1 a, Step P W H P1 W1 H1 ∧ Rel P1 W1 H1 σ a v1 ∧ GoS K mg E md (g a) P1 W1 H1 σ D) := by
  cases r with
  | ok a => exact fun v P1 W1 H1 s rel => ⟨P1, W1, a, s, rel, GoS.step s (Kp.refl md σ) h⟩
  | exc x ρ' => exact fun c od P1 W1 H1 s w x => h c od σ P1 W1 H1 s w (Kp.refl md σ) x
  | fail => exact h
theorem GoS.valB {r : Res (Bool × Env)} {g : Bool × Env → Res Fl} (h : GoS K mg E md (r >>= g) P W H σ D) :
    GoB K mg E r P W H σ (fun b H1 => ∃ P1 W1 ρ1, Step P W H P1 W1 H1 ∧ Wd K mg P1 W1 H1 σ ρ1 ∧ GoS K mg E md (g (b, ρ1)) P1 W1 H1 σ D) := by
  cases r with
  | ok a => exact fun P1 W1 H1 s w => ⟨P1, W1, a.2, s, w, GoS.step s (Kp.refl md σ) h⟩
  | exc x ρ' => exact fun c od P1 W1 H1 s w x => h c od σ P1 W1 H1 s w (Kp.refl md σ) x
  | fail => exact h
end
def sSeq (F G : SM) : SM := fun ρ => match F ρ with
  | .ok (.nx ρ1) => G ρ1
  | r => r
def sNil : SM := fun ρ => .ok (.nx ρ)
def sExpr (F : EM) : SM := fun ρ => F ρ >>= fun a => .ok (.nx a.2)
def sRet (F : OM) : SM := fun ρ => F ρ >>= fun a => .ok (.rt a.1 a.2)
def sRetV (F : EM) : SM := fun ρ => F ρ >>= fun a => .ok (.rt (.sh a.1) a.2)
def sIf (C : BM) (F G : SM) : SM := fun ρ => C ρ >>= fun b => if b.1 then F b.2 else G b.2
def putE (i : Nat) (t : T) (ρ : Env) : Option Env := if i < ρ.length then some (ρ.set i (some t)) else none
def sSet (i : Nat) (F : OM) : SM := fun ρ => F ρ >>= fun a => Res.of (putE i a.1 a.2) >>= fun ρ1 => .ok (.nx ρ1)
def sSetV (i : Nat) (F : EM) : SM := fun ρ => F ρ >>= fun a => Res.of (putE i (.sh a.1) a.2) >>= fun ρ1 => .ok (.nx ρ1)
/-- names that are not asked again -/
def wipeE (is : List Nat) (ρ : Env) : Env := is.foldl (fun ρ i => ρ.set i none) ρ
def wipeF (is : List Nat) : Fl → Fl
  | .nx ρ => .nx (wipeE is ρ)
  | .bk ρ => .bk (wipeE is ρ)
  | .ct ρ => .ct (wipeE is ρ)
  | .rt t ρ => .rt t ρ
def sWipe (is : List Nat) (F : SM) : SM := fun ρ => match F ρ with
  | .ok f => .ok (wipeF is f)
  | r => r
section
variable {K : PySem.W.Frag} {mg : Str → Option Value} {P P' H H' : Hp} {W W' : Own} {σ : St} {ρ : Env}
theorem Wd.wipe (w : Wd K mg P W H σ ρ) (is : List Nat) : Wd K mg P W H σ (wipeE is ρ) := by
  induction is generalizing ρ with
  | nil => exact w
  | cons i is ih => exact ih w.forget
/-- the object in hand goes to a slot -/
theorem Wd.put {i : Nat} {t : T} {v : V} (w : Wd K mg P W H σ ρ) (h : RT K mg P W H none t v) (hi : i < ρ.length) :
    ∃ W', Wd K mg P W' H (σ.set i (some v)) (ρ.set i (some t)) ∧ Step P W H P W' H := by
  have hσ : i < σ.length := Nat.lt_of_lt_of_le hi w.len
  refine ⟨fun a => match W a with | some (none, f) => some (some i, f) | some (some j, f) => if j = i then some (none, f) else some (some j, f) | none => none,
    ⟨w.same, fun a r ea => ?_, fun j t' ej => ?_, by simpa using w.len⟩, same_refl P, fun a o h wa => ⟨h, by simp only [wa], rfl⟩⟩
  · cases q : W a with
    | none => simp only [q] at ea; cases ea
    | some r' => exact w.own a r' q
  · by_cases hj : j = i
    · subst hj
      rw [List.getElem?_set_self hi] at ej
      cases ej
      exact ⟨v, by rw [List.getElem?_set_self hσ], RT.mono (same_refl P) (fun f x ex => ⟨by simp only [ex], fun _ h => h⟩) t v h⟩
    · rw [List.getElem?_set_ne (Ne.symm hj)] at ej
      obtain ⟨v', hs', hr'⟩ := w.env j t' ej
      exact ⟨v', by rw [List.getElem?_set_ne (Ne.symm hj)]; exact hs', RT.mono (same_refl P) (fun f x ex => ⟨by simp only [ex, if_neg hj], fun _ h => h⟩) t' v' hr'⟩
theorem putE_some {i : Nat} {t : T} {ρ1 : Env} (h : putE i t ρ = some ρ1) : i < ρ.length ∧ ρ1 = ρ.set i (some t) := by
  unfold putE at h
  split at h
  · rename_i hi; exact ⟨hi, (Option.some.inj h).symm⟩
  · cases h
theorem Kp.set {md : List Bool} {i : Nat} {v : Option V} (h : md[i]? ≠ some true) : Kp md σ (σ.set i v) :=
  ⟨by simp, fun j hj => by
    have : j ≠ i := fun z => by subst z; exact h hj
    rw [List.getElem?_set_ne (Ne.symm this)]⟩
theorem GoS.of {α : Type} {E : WX} {md : List Bool} {D : Ends} {o : Option α} {g : α → Res Fl} (h : GoS K mg E md (Res.of o >>= g) P W H σ D) : ∃ r, o = some r ∧ GoS K mg E md (g r) P W H σ D := by
  cases o with
  | none => exact h.elim
  | some r => exact ⟨r, rfl, h⟩
end
section
variable {X : Cx} {E : WX} {md : List Bool} {st : Stmt} {rest : List Stmt} {F G : SM} {e : Expr} {A : EM} {B : OM} {C : BM} {pos : Pos}
theorem sds_nil : SDs X E md [] sNil := PSs.imp pss_nil fun D σ H ⟨P, W, ρ, w, g⟩ => g σ P W H (Step.refl P W H) w (Kp.refl md σ)
theorem sds_cons (h : SD X E md st F) (g : SDs X E md rest G) : SDs X E md (st :: rest) (sSeq F G) := PSs.imp (pss_cons h g) fun D σ H ⟨P, W, ρ, w, g⟩ => by
  refine ⟨P, W, ρ, w, ?_⟩
  unfold sSeq at g
  cases hf : F ρ with
  | ok f =>
    rw [hf] at g
    cases f with
    | nx ρ1 => exact fun σ' P' W' H' s w' k => ⟨P', W', ρ1, w', GoS.step s k g⟩
    | bk ρ1 => exact g
    | ct ρ1 => exact g
    | rt t ρ1 => exact g
  | exc x ρ1 => rw [hf] at g; exact g
  | fail => rw [hf] at g; exact g
theorem sds_one (h : SD X E md st F) : SDs X E md [st] F := pss_one h
theorem sds_wipe (is : List Nat) (h : SDs X E md rest F) : SDs X E md rest (sWipe is F) := PSs.imp h fun D σ H ⟨P, W, ρ, w, g⟩ => by
  refine ⟨P, W, ρ, w, ?_⟩
  unfold sWipe at g
  cases hf : F ρ with
  | ok f =>
    rw [hf] at g
    cases f with
    | nx ρ1 => exact fun σ' P' W' H' s w' k => g σ' P' W' H' s (w'.wipe is) k
    | bk ρ1 => exact fun σ' P' W' H' s w' k => g σ' P' W' H' s (w'.wipe is) k
    | ct ρ1 => exact fun σ' P' W' H' s w' k => g σ' P' W' H' s (w'.wipe is) k
    | rt t ρ1 => exact g
  | exc x ρ1 => rw [hf] at g; exact g
  | fail => rw [hf] at g; exact g
theorem sd_expr (h : EV X E e A) (hs : swapsWith e none pos.line X.env = pure false := by rfl) : SD X E md (.Expr e pos) (sExpr A) := PS.imp (ps_expr h hs) fun D σ H ⟨P, W, ρ, w, g⟩ =>
  ⟨P, W, ρ, w, (GoS.val g).mono fun v H1 ⟨P1, W1, a, s, ⟨w1, d1⟩, k⟩ => k σ P1 W1 H1 (Step.refl P1 W1 H1) w1 (Kp.refl md σ)⟩
theorem sd_ret (h : ET X E e B) : SD X E md (.Return (some e) pos) (sRet B) := PS.imp (ps_ret h) fun D σ H ⟨P, W, ρ, w, g⟩ =>
  ⟨P, W, ρ, w, (GoS.val g).mono fun v H1 ⟨P1, W1, a, s, ⟨w1, d1⟩, k⟩ => k v σ P1 W1 H1 (Step.refl P1 W1 H1) w1 (Kp.refl md σ) d1⟩
theorem sd_retV (h : EV X E e A) : SD X E md (.Return (some e) pos) (sRetV A) := PS.imp (ps_ret h) fun D σ H ⟨P, W, ρ, w, g⟩ =>
  ⟨P, W, ρ, w, (GoS.val g).mono fun v H1 ⟨P1, W1, a, s, ⟨w1, d1⟩, k⟩ => k v σ P1 W1 H1 (Step.refl P1 W1 H1) w1 (Kp.refl md σ) d1⟩
theorem sd_if {c : Expr} {a b : List Stmt} (hc : EB X E c C) (ha : SDs X E md a F) (hb : SDs X E md b G) : SD X E md (.If c a b pos) (sIf C F G) := PS.imp (ps_if hc ha hb) fun D σ H ⟨P, W, ρ, w, g⟩ =>
  ⟨P, W, ρ, w, (GoS.valB g).mono fun b H1 ⟨P1, W1, ρ1, s, w1, k⟩ => by
    cases b with
    | true => exact ⟨P1, W1, ρ1, w1, k⟩
    | false => exact ⟨P1, W1, ρ1, w1, k⟩⟩
/-- name = e, whatever rule gives it -/
theorem sd_set {i : Nat} (hp : PS X st (tAsg (rX X.K X.mg E (TRel X.K X.mg) B) (gName i))) (hk : md[i]? ≠ some true) : SD X E md st (sSet i B) := PS.imp hp fun D σ H ⟨P, W, ρ, w, g⟩ =>
  ⟨P, W, ρ, w, (GoS.val g).mono fun v H1 ⟨P1, W1, a, s, ⟨w1, d1⟩, k⟩ => by
    obtain ⟨ρ2, e, k⟩ := GoS.of k
    obtain ⟨hi, rfl⟩ := putE_some e
    obtain ⟨W2, w2, s2⟩ := w1.put d1 hi
    exact k _ P1 W2 H1 s2 w2 (Kp.set hk)⟩
theorem sd_setV {i : Nat} (hp : PS X st (tAsg (rX X.K X.mg E (VRel X.K X.mg) A) (gName i))) (hk : md[i]? ≠ some true) : SD X E md st (sSetV i A) := PS.imp hp fun D σ H ⟨P, W, ρ, w, g⟩ =>
  ⟨P, W, ρ, w, (GoS.val g).mono fun v H1 ⟨P1, W1, a, s, ⟨w1, d1⟩, k⟩ => by
    obtain ⟨ρ2, e, k⟩ := GoS.of k
    obtain ⟨hi, rfl⟩ := putE_some e
    obtain ⟨W2, w2, s2⟩ := w1.put (t := .sh a.1) d1 hi
    exact k _ P1 W2 H1 s2 w2 (Kp.set hk)⟩
end
/-! ### targets -/
abbrev GM := D → Env → Option Env
def gNm (i : Nat) : GM := fun d ρ => putE i (.sh d) ρ
def gEach : List GM → List D → Env → Option Env
  | [], [], ρ => some ρ
  | g :: gs, d :: ds, ρ => (g d ρ).bind (gEach gs ds)
  | _, _, _ => none
def gTp (gs : List GM) : GM := fun d ρ => match d with
  | .tup ds => gEach gs ds ρ
  | _ => none
/-- slots but these keep their values -/
def Ke (sl : List Nat) (σ σ' : St) : Prop := σ'.length = σ.length ∧ ∀ i : Nat, i ∉ sl → σ'[i]? = σ[i]?
theorem Ke.refl (sl : List Nat) (σ : St) : Ke sl σ σ := ⟨rfl, fun _ _ => rfl⟩
theorem Ke.trans {sl : List Nat} {σ σ1 σ2 : St} (a : Ke sl σ σ1) (b : Ke sl σ1 σ2) : Ke sl σ σ2 := ⟨b.1.trans a.1, fun i h => (b.2 i h).trans (a.2 i h)⟩
def rG (K : PySem.W.Frag) (mg : Str → Option Value) (sl : List Nat) (g : GM) : TG := fun v σ H Q => ∃ P W ρ d ρ', Wd K mg P W H σ ρ ∧ Den K P d v ∧ g d ρ = some ρ' ∧ ∀ σ' P' W' H', Step P W H P' W' H' → Wd K mg P' W' H' σ' ρ' → Ke sl σ σ' → Q σ' H'
def rGs (K : PySem.W.Frag) (mg : Str → Option Value) (sl : List Nat) (gs : List GM) : TGs := fun vs σ H Q => ∃ P W ρ ds ρ', Wd K mg P W H σ ρ ∧ DenL K P ds vs ∧ gEach gs ds ρ = some ρ' ∧ ∀ σ' P' W' H', Step P W H P' W' H' → Wd K mg P' W' H' σ' ρ' → Ke sl σ σ' → Q σ' H'
def GD (X : Cx) (sl : List Nat) (tg : Expr) (g : GM) : Prop := PG X tg (rG X.K X.mg sl g)
def GDs (X : Cx) (sl : List Nat) (tg : List Expr) (gs : List GM) : Prop := PGs X tg (rGs X.K X.mg sl gs)
theorem PG.imp {X : Cx} {e : Expr} {t t' : TG} (h : PG X e t) (q : ∀ v σ H Q, t' v σ H Q → t v σ H Q) : PG X e t' := ⟨fun pins s σ H v u Q I r hq => h.run pins s σ H v u Q I r (q v σ H Q hq)⟩
theorem PGs.imp {X : Cx} {e : List Expr} {t t' : TGs} (h : PGs X e t) (q : ∀ v σ H Q, t' v σ H Q → t v σ H Q) : PGs X e t' := ⟨fun pins s σ H v u Q I r hq => h.run pins s σ H v u Q I r (q v σ H Q hq)⟩
section
variable {X : Cx} {sl : List Nat} {pos : Pos} {e : Expr} {es : List Expr} {g : GM} {gs : List GM}
theorem gd_name {i : Nat} {x : Str} (hN : X.N.Nodup) (hi : X.N[i]? = some x) (hx : Loc X.env.scope x) (hs : i ∈ sl) (hf : X.fn x = true ∨ X.env.scope.names.lookup x = some .local := by first | exact .inl rfl | exact .inr rfl | assumption) : GD X sl (.Name x pos) (gNm i) :=
  PG.imp (pg_name hN hi hx hf) fun v σ H Q ⟨P, W, ρ, d, ρ', w, dn, e, q⟩ => by
    obtain ⟨hl, rfl⟩ := putE_some e
    obtain ⟨W2, w2, s2⟩ := w.put (t := .sh d) dn hl
    exact q _ P W2 H s2 w2 ⟨by simp, fun j hj => by
      have : j ≠ i := fun z => by subst z; exact hj hs
      rw [List.getElem?_set_ne (Ne.symm this)]⟩
theorem gds_nil : GDs X sl [] [] := PGs.imp pgs_nil fun vs σ H Q ⟨P, W, ρ, ds, ρ', w, dn, e, q⟩ => by
  cases ds with
  | nil =>
    have : ρ = ρ' := Option.some.inj e
    subst this
    unfold DenL at dn
    exact ⟨dn, q σ P W H (Step.refl P W H) w (Ke.refl sl σ)⟩
  | cons d ds => cases e
theorem gds_cons (h : GD X sl e g) (h2 : GDs X sl es gs) (hs : (assignEach (e :: es) X.env).map (·.2) = assign e X.env :: (assignEach es X.env).map (·.2) := by rfl) : GDs X sl (e :: es) (g :: gs) :=
  PGs.imp (pgs_cons h h2 hs) fun vs σ H Q ⟨P, W, ρ, ds, ρ', w, dn, e, q⟩ => by
    cases ds with
    | nil => cases e
    | cons d ds =>
      unfold DenL at dn
      obtain ⟨v, r, rfl, d1, d2⟩ := dn
      unfold gEach at e
      cases e1 : g d ρ with
      | none => rw [e1] at e; cases e
      | some ρ1 =>
        rw [e1] at e
        exact ⟨v, r, rfl, P, W, ρ, d, ρ1, w, d1, e1, fun σ1 P1 W1 H1 s1 w1 k1 => ⟨P1, W1, ρ1, ds, ρ', w1, DenL.mono s1.1 _ _ d2, e, fun σ2 P2 W2 H2 s2 w2 k2 => q σ2 P2 W2 H2 (s1.trans s2) w2 (k1.trans k2)⟩⟩
theorem gEach_len : ∀ {gs : List GM} {ds : List D} {ρ ρ' : Env}, gEach gs ds ρ = some ρ' → ds.length = gs.length
  | [], [], _, _, _ => rfl
  | [], _ :: _, _, _, h => by cases h
  | _ :: _, [], _, _, h => by cases h
  | g :: gs, d :: ds, ρ, ρ', h => by
    unfold gEach at h
    cases e1 : g d ρ with
    | none => rw [e1] at h; cases h
    | some ρ1 =>
      rw [e1] at h
      simp [gEach_len h]
theorem gd_tup {k : Nat} {n : Nat} (hc : X.calm = true) (h : GDs X sl es gs) (hl : gs.length = n) (hn : (assignEach es X.env).length = n := by rfl) (hst : (assignEach es X.env).findIdx? (·.1) = none := by rfl) : GD X sl (.Tuple es k pos) (gTp gs) :=
  PG.imp (pg_tup hc h hn hst) fun v σ H Q ⟨P, W, ρ, d, ρ', w, dn, e, q⟩ => by
    cases d with
    | tup ds =>
      unfold Den at dn
      obtain ⟨a, vs, rfl, t, l⟩ := dn
      have e : gEach gs ds ρ = some ρ' := e
      exact ⟨a, vs, rfl, same_t w.same t, by rw [l.len, gEach_len e, hl], P, W, ρ, ds, ρ', w, l, e, q⟩
    | _ => cases e
end
/-- target = e -/
def sAsg (g : GM) (F : EM) : SM := fun ρ => F ρ >>= fun a => Res.of (g a.1 a.2) >>= fun ρ1 => .ok (.nx ρ1)
theorem Kp.ke {md : List Bool} {sl : List Nat} {σ σ' : St} (k : Ke sl σ σ') (h : ∀ i ∈ sl, md[i]? ≠ some true) : Kp md σ σ' := ⟨k.1, fun i hi => k.2 i fun z => h i z hi⟩
section
variable {X : Cx} {E : WX} {md : List Bool} {sl : List Nat} {pos : Pos} {e tg : Expr} {g : GM} {F : EM}
theorem sd_asg (he : EV X E e F) (hg : GD X sl tg g) (hk : ∀ i ∈ sl, md[i]? ≠ some true) (hs : swapsWithSole [tg] e pos.line X.env = pure false := by rfl) (hw : swappedStores [tg] e X.env = pure none := by rfl)
    (h1 : (assignEach [tg] X.env).map (·.2) = [assign tg X.env] := by rfl) : SD X E md (.Assign [tg] e pos) (sAsg g F) := PS.imp (ps_asg he hg hs hw h1) fun D σ H ⟨P, W, ρ, w, g0⟩ =>
  ⟨P, W, ρ, w, (GoS.val g0).mono fun v H1 ⟨P1, W1, a, s, ⟨w1, d1⟩, k⟩ => by
    obtain ⟨ρ2, e, k⟩ := GoS.of k
    exact ⟨P1, W1, a.2, a.1, ρ2, w1, d1, e, fun σ' P' W' H' s' w' k' => k σ' P' W' H' s' w' (Kp.ke k' hk)⟩⟩
end
/-! ### what is walked -/
structure ItOk (K : PySem.W.Frag) (J : It) (P : Hp) (xs : List D) : Prop where
  go : ∀ (i : Nat) (P2 H2 : Hp), Same P P2 → Same P2 H2 → i < xs.length → J.go i H2
  stop : ∀ (P2 H2 : Hp), Same P P2 → Same P2 H2 → J.stop xs.length H2
  yld : ∀ (i : Nat) (P2 H2 : Hp) (x : V) (H3 : Hp) (d : D), Same P P2 → Same P2 H2 → xs[i]? = some d → J.yld i H2 x H3 → ∃ P3, Al P2 H2 P3 H3 ∧ Den K P3 d x
abbrev IM := Env → Res (List D × Env)
def IRel (K : PySem.W.Frag) (mg : Str → Option Value) (P : Hp) (W : Own) (H : Hp) (σ : St) (a : List D × Env) (J : It) : Prop := Wd K mg P W H σ a.2 ∧ ItOk K J P a.1
def EI (X : Cx) (E : WX) (tg iter : Expr) (I : IM) : Prop := PI X tg iter (rX X.K X.mg E (IRel X.K X.mg) I)
theorem PI.imp {X : Cx} {tg e : Expr} {t t' : TI} (h : PI X tg e t) (q : ∀ σ H Q, t' σ H Q → t σ H Q) : PI X tg e t' := ⟨fun pins s σ H R I hq => h.run pins s σ H R I (q σ H R hq)⟩
def forL (g : GM) (B : SM) : List D → SM
  | [], ρ => .ok (.nx ρ)
  | x :: xs, ρ => Res.of (g x ρ) >>= fun ρ1 => match B ρ1 with
    | .ok (.nx ρ2) => forL g B xs ρ2
    | .ok (.ct ρ2) => forL g B xs ρ2
    | .ok (.bk ρ2) => .ok (.nx ρ2)
    | r => r
def sFor (g : GM) (I : IM) (B : SM) : SM := fun ρ => I ρ >>= fun a => forL g B a.1 a.2
section
variable {X : Cx} {E : WX} {md : List Bool} {sl : List Nat} {pos : Pos} {tg iter : Expr} {body : List Stmt} {g : GM} {I : IM} {B : SM}
theorem sd_for (hp : PassesOwn (model X.prog X.w) X.A X.env X.xe) (hc : X.calm = true) (hi : EI X E tg iter I) (hg : GD X sl tg g) (hb : SDs X E md body B) (hk : ∀ i ∈ sl, md[i]? ≠ some true)
    (hs : ∀ x, foldedSetIterable iter X.env x = pure x := by intro _; rfl) : SD X E md (.For tg iter body [] pos) (sFor g I B) := PS.imp (ps_for hp hc hi hg hb hs) fun D σ H ⟨P, W, ρ, w, g0⟩ => by
  refine ⟨P, W, ρ, w, (GoS.val g0).mono fun J H1 ⟨P1, W1, a, s1, ⟨w1, ok⟩, k⟩ => ?_⟩
  refine ⟨fun i m σ2 H2 => m = a.1.length - i ∧ i ≤ a.1.length ∧ ∃ P2 W2 ρ2, Wd X.K X.mg P2 W2 H2 σ2 ρ2 ∧ Same P1 P2 ∧ GoS X.K X.mg E md (forL g B (a.1.drop i) ρ2) P2 W2 H2 σ2 D, ⟨a.1.length, by simp, Nat.zero_le _, P1, W1, a.2, w1, same_refl P1, k⟩, ?_⟩
  rintro i m σ2 H2 ⟨rfl, hi, P2, W2, ρ2, w2, sm, k2⟩
  by_cases hlt : i < a.1.length
  · rw [List.drop_eq_getElem_cons hlt] at k2
    unfold forL at k2
    obtain ⟨ρ3, eg, k3⟩ := GoS.of k2
    refine .inr ⟨ok.go i P2 H2 sm w2.same hlt, fun σ' H' => ∃ P3 W3 ρ4, Wd X.K X.mg P3 W3 H' σ' ρ4 ∧ Same P1 P3 ∧ GoS X.K X.mg E md (forL g B (a.1.drop (i + 1)) ρ4) P3 W3 H' σ' D, fun σ' H' q => ⟨a.1.length - (i + 1), by omega, rfl, hlt, q⟩, fun x H' y => ?_⟩
    obtain ⟨P3, al, dn⟩ := ok.yld i P2 H2 x H' _ sm w2.same (List.getElem?_eq_getElem hlt) y
    refine ⟨P3, W2, ρ2, _, ρ3, w2.al al, dn, eg, fun σ4 P4 W4 H4 s4 w4 k4 => ?_⟩
    have st : Step P2 W2 H2 P4 W4 H4 := (al.step W2).trans s4
    have kp := Kp.ke k4 hk
    refine ⟨P4, W4, ρ3, w4, ?_⟩
    have k5 := GoS.step st kp k3
    cases hB : B ρ3 with
    | ok f =>
      rw [hB] at k5
      cases f with
      | nx ρ5 => exact fun σ' P' W' H'' s' w' k' => ⟨P', W', ρ5, w', same_trans (same_trans sm st.1) s'.1, GoS.step s' k' k5⟩
      | ct ρ5 => exact fun σ' P' W' H'' s' w' k' => ⟨P', W', ρ5, w', same_trans (same_trans sm st.1) s'.1, GoS.step s' k' k5⟩
      | bk ρ5 => exact k5
      | rt t ρ5 => exact k5
    | exc x ρ5 => rw [hB] at k5; exact k5
    | fail => rw [hB] at k5; exact k5
  · have e : i = a.1.length := by omega
    subst e
    rw [List.drop_length] at k2
    exact .inl ⟨ok.stop P2 H2 sm w2.same, k2 σ2 P2 W2 H2 (Step.refl P2 W2 H2) w2 (Kp.refl md σ2)⟩
end
/-! while: so many turns at most -/
def whL (C : BM) (B : SM) : Nat → SM
  | 0, _ => .fail
  | n + 1, ρ => C ρ >>= fun b => if b.1 then (match B b.2 with
    | .ok (.nx ρ2) => whL C B n ρ2
    | .ok (.ct ρ2) => whL C B n ρ2
    | .ok (.bk ρ2) => .ok (.nx ρ2)
    | r => r) else .ok (.nx b.2)
def sWhile (n : Nat) (C : BM) (B : SM) : SM := whL C B n
section
variable {X : Cx} {E : WX} {md : List Bool} {pos : Pos} {c : Expr} {body : List Stmt} {C : BM} {B : SM}
theorem sd_while (n : Nat) (hp : PassesOwn (model X.prog X.w) X.A X.env X.xe) (hc : EB X E c C) (hb : SDs X E md body B) : SD X E md (.While c body [] pos) (sWhile n C B) := PS.imp (ps_while hp hc hb) fun D σ H ⟨P, W, ρ, w, g0⟩ => by
  refine ⟨fun m σ2 H2 => ∃ P2 W2 ρ2, Wd X.K X.mg P2 W2 H2 σ2 ρ2 ∧ GoS X.K X.mg E md (whL C B m ρ2) P2 W2 H2 σ2 D, ⟨n, P, W, ρ, w, g0⟩, ?_⟩
  rintro m σ2 H2 ⟨P2, W2, ρ2, w2, k2⟩
  cases m with
  | zero => exact k2.elim
  | succ m =>
    unfold whL at k2
    refine ⟨P2, W2, ρ2, w2, (GoS.valB k2).mono fun b H3 ⟨P3, W3, ρ3, s3, w3, k3⟩ => ?_⟩
    cases b with
    | false => exact k3 σ2 P3 W3 H3 (Step.refl P3 W3 H3) w3 (Kp.refl md σ2)
    | true =>
      refine ⟨fun σ' H' => ∃ P' W' ρ', Wd X.K X.mg P' W' H' σ' ρ' ∧ GoS X.K X.mg E md (whL C B m ρ') P' W' H' σ' D, fun σ' H' q => ⟨m, Nat.lt_succ_self m, q⟩, P3, W3, ρ3, w3, ?_⟩
      simp only [if_true] at k3
      cases hB : B ρ3 with
      | ok f =>
        rw [hB] at k3
        cases f with
        | nx ρ5 => exact fun σ' P' W' H'' s' w' k' => ⟨P', W', ρ5, w', GoS.step s' k' k3⟩
        | ct ρ5 => exact fun σ' P' W' H'' s' w' k' => ⟨P', W', ρ5, w', GoS.step s' k' k3⟩
        | bk ρ5 => exact k3
        | rt t ρ5 => exact k3
      | exc x ρ5 => rw [hB] at k3; exact k3
      | fail => rw [hB] at k3; exact k3
end
end Od
namespace Od
open PySem PySem.Spec L2
open PyProof.Rows hiding St
/-! ### what is walked: lists, tuples, texts, ranges, enumerate, zip -/
def iSeq (F : EM) : IM := fun ρ => F ρ >>= fun a => match a.1 with
  | .lst ds => .ok (ds, a.2)
  | .rol ds => .ok (ds, a.2)
  | _ => .fail
def iTupD (F : EM) : IM := fun ρ => F ρ >>= fun a => match a.1 with
  | .tup ds => .ok (ds, a.2)
  | _ => .fail
def iStrD (F : EM) : IM := fun ρ => F ρ >>= fun a => match a.1 with
  | .str s => .ok (s.map fun c => .str [c], a.2)
  | _ => .fail
def rngD (lo : Int) (n : Nat) : List D := (List.range n).map fun k => .int (lo + (k : Nat))
def okI (j : Int) : Bool := decide (-1000000000 ≤ j) && decide (j ≤ 1000000000)
def rng1 : List D → Option (List D)
  | [.int j] => if okI j then some (rngD 0 j.toNat) else none
  | _ => none
def iArg (f : List D → Option (List D)) (As : List EM) : IM := fun ρ => vL As ρ >>= fun a => Res.of (f a.1) >>= fun xs => .ok (xs, a.2)
def enumD (ds : List D) : List D := ds.zipIdx.map fun p => .tup [.int (p.2 : Nat), p.1]
def seqD : D → Option (List D)
  | .lst ds => some ds
  | .rol ds => some ds
  | _ => none
def enu1 : List D → Option (List D)
  | [d] => (seqD d).map enumD
  | _ => none
def zipD (ds es : List D) : List D := (ds.zip es).map fun p => .tup [p.1, p.2]
def zip2 : List D → Option (List D)
  | [d, e] => (seqD d).bind fun ds => (seqD e).map fun es => zipD ds es
  | _ => none
theorem rngD_get {lo : Int} {n i : Nat} {d : D} (h : (rngD lo n)[i]? = some d) : d = .int (lo + (i : Nat)) := by
  unfold rngD at h
  rw [List.getElem?_map] at h
  by_cases hi : i < n
  · rw [List.getElem?_range hi] at h
    cases h; rfl
  · rw [List.getElem?_eq_none (by simpa using hi)] at h; cases h
theorem rngD_len {lo : Int} {n : Nat} : (rngD lo n).length = n := by simp [rngD]
section
variable {K : PySem.W.Frag} {P : Hp}
theorem it_list {a : Addr} {ds : List D} {vs : List V} (q : SqL K P a vs) (l : DenL K P ds vs) : ItOk K (Itl K a) P ds where
  go := fun i P2 H2 s s2 hi => walk_list.goes i H2 (by rw [l.len]; exact hi) (same_l s2 (same_l s q))
  stop := fun P2 H2 s s2 => by rw [← l.len]; exact walk_list.stops H2 (same_l s2 (same_l s q))
  yld := fun i P2 H2 x H3 d s s2 hd y => by
    have hi : i < ds.length := (List.getElem?_eq_some_iff.mp hd).1
    obtain ⟨rfl, hx⟩ := walk_list.yields i H2 x H3 (by rw [l.len]; exact hi) (same_l s2 (same_l s q)) y
    obtain ⟨d', e, dn⟩ := l.get' hx
    rw [hd] at e; cases e
    exact ⟨P2, Al.refl s2, Den.mono s _ _ dn⟩
theorem it_tup {a : Addr} {ds : List D} {vs : List V} (q : SqT K P a vs) (l : DenL K P ds vs) : ItOk K (Itt K a) P ds where
  go := fun i P2 H2 s s2 hi => walk_tup.goes i H2 (by rw [l.len]; exact hi) (same_t s2 (same_t s q))
  stop := fun P2 H2 s s2 => by rw [← l.len]; exact walk_tup.stops H2 (same_t s2 (same_t s q))
  yld := fun i P2 H2 x H3 d s s2 hd y => by
    have hi : i < ds.length := (List.getElem?_eq_some_iff.mp hd).1
    obtain ⟨rfl, hx⟩ := walk_tup.yields i H2 x H3 (by rw [l.len]; exact hi) (same_t s2 (same_t s q)) y
    obtain ⟨d', e, dn⟩ := l.get' hx
    rw [hd] at e; cases e
    exact ⟨P2, Al.refl s2, Den.mono s _ _ dn⟩
theorem it_str {z : Tx} : ItOk K (Its (sT z)) P (z.map fun c => .str [c]) where
  go := fun i P2 H2 s s2 hi => walk_str.goes i H2 (by simpa [sT] using hi) trivial
  stop := fun P2 H2 s s2 => by
    have := (walk_str (z := sT z)).stops H2 trivial
    simpa [sT] using this
  yld := fun i P2 H2 x H3 d s s2 hd y => by
    have hi : i < z.length := by
      have := (List.getElem?_eq_some_iff.mp hd).1
      simpa using this
    obtain ⟨rfl, c, hc, rfl⟩ := (walk_str (z := sT z)).yields i H2 x H3 (by simpa [sT] using hi) trivial y
    rw [List.getElem?_map] at hd
    have hc' : z[i]? = some c := by simpa [sT] using hc
    rw [hc'] at hd
    cases hd
    exact ⟨P2, Al.refl s2, by unfold Den; rfl⟩
theorem it_range {lo : Int} {n : Nat} : ItOk K (Itr lo n) P (rngD lo n) where
  go := fun i P2 H2 s s2 hi => by rw [rngD_len] at hi; exact hi
  stop := fun P2 H2 s s2 => by rw [rngD_len]; exact Nat.le_refl n
  yld := fun i P2 H2 x H3 d s s2 hd y => by
    obtain ⟨rfl, rfl⟩ := y
    rw [rngD_get hd]
    exact ⟨P2, Al.refl s2, dint⟩
theorem pair_new {P2 H2 : Hp} {T : Addr} {x y : V} {d e : D} (s : Same P2 H2) (n : H2 T = none) (h1 : Den K P2 d x) (h2 : Den K P2 e y) :
    ∃ P3, Al P2 H2 P3 (upd H2 T (.tup [x, y])) ∧ Den K P3 (.tup [d, e]) (.ref T) :=
  let ⟨al, dn⟩ := dnewT s n (DenL.cons h1 (DenL.cons h2 DenL.nil))
  ⟨_, al, dn⟩
theorem it_enum {a : Addr} {ds : List D} {vs : List V} (q : SqL K P a vs) (l : DenL K P ds vs) : ItOk K (Ite K a) P (enumD ds) where
  go := fun i P2 H2 s s2 hi => walk_enum.goes i H2 (by rw [l.len]; simpa [enumD] using hi) (same_l s2 (same_l s q))
  stop := fun P2 H2 s s2 => by
    have e : (enumD ds).length = vs.length := by rw [l.len]; simp [enumD]
    rw [e]; exact walk_enum.stops H2 (same_l s2 (same_l s q))
  yld := fun i P2 H2 x H3 d s s2 hd y => by
    have hi : i < ds.length := by
      have := (List.getElem?_eq_some_iff.mp hd).1
      simpa [enumD] using this
    obtain ⟨T, x1, x2, rfl, n, rfl, e1, e2⟩ := walk_enum.yields i H2 x H3 (by rw [l.len]; exact hi) (same_l s2 (same_l s q)) y
    cases e1
    obtain ⟨d', e, dn⟩ := l.get' e2
    unfold enumD at hd
    rw [List.getElem?_map, List.getElem?_zipIdx, e] at hd
    simp only [Option.map_some, Option.some.injEq] at hd
    rw [← hd, Nat.zero_add]
    exact pair_new s2 n dint (Den.mono s _ _ dn)
theorem it_zip {a b : Addr} {ds es : List D} {vs ws : List V} (q : SqL K P a vs) (l : DenL K P ds vs) (q2 : SqL K P b ws) (l2 : DenL K P es ws) : ItOk K (Itz K a b) P (zipD ds es) where
  go := fun i P2 H2 s s2 hi => (walk_zip rfl).goes i H2 (by rw [l.len, l2.len]; simpa [zipD] using hi) ⟨same_l s2 (same_l s q), same_l s2 (same_l s q2)⟩
  stop := fun P2 H2 s s2 => by
    have e : (zipD ds es).length = min vs.length ws.length := by rw [l.len, l2.len]; simp [zipD]
    rw [e]; exact (walk_zip rfl).stops H2 ⟨same_l s2 (same_l s q), same_l s2 (same_l s q2)⟩
  yld := fun i P2 H2 x H3 d s s2 hd y => by
    have hi : i < min ds.length es.length := by
      have := (List.getElem?_eq_some_iff.mp hd).1
      simpa [zipD] using this
    obtain ⟨T, x1, x2, rfl, n, rfl, e1, e2⟩ := (walk_zip rfl).yields i H2 x H3 (by rw [l.len, l2.len]; exact hi) ⟨same_l s2 (same_l s q), same_l s2 (same_l s q2)⟩ y
    obtain ⟨d1, e1', dn1⟩ := l.get' e1
    obtain ⟨d2, e2', dn2⟩ := l2.get' e2
    unfold zipD at hd
    have ez : (ds.zip es)[i]? = some (d1, d2) := List.getElem?_zip_eq_some.mpr ⟨e1', e2'⟩
    rw [List.getElem?_map, ez] at hd
    simp only [Option.map_some, Option.some.injEq] at hd
    rw [← hd]
    exact pair_new s2 n (Den.mono s _ _ dn1) (Den.mono s _ _ dn2)
end
theorem seqD_v {K : PySem.W.Frag} {P : Hp} {d : D} {v : V} {ds : List D} (h : Den K P d v) (e : seqD d = some ds) : ∃ a vs, v = .ref a ∧ SqL K P a vs ∧ DenL K P ds vs := by
  cases d <;> simp [seqD] at e
  · subst e
    unfold Den at h
    obtain ⟨a, vs, rfl, q, l⟩ := h
    exact ⟨a, vs, rfl, SqL.of q, l⟩
  · subst e
    unfold Den at h
    exact h
section
variable {K : PySem.W.Frag} {X : Cx} {E : WX} {tg e : Expr} {F : EM} {As : List EM}
theorem ei_seq (h : EV X E e F) : EI X E tg e (iSeq F) := PI.imp (pi_list h) fun σ H Q ⟨P, W, ρ, w, g⟩ => ⟨P, W, ρ, w, (Go.bind g).mono fun v H1 ⟨P1, W1, a, s1, ⟨w1, d1⟩, k⟩ => by
  obtain ⟨d, ρ1⟩ := a
  cases d with
  | lst ds =>
    obtain ⟨a, vs, rfl, q, l⟩ := seqD_v d1 (ds := ds) rfl
    exact ⟨a, rfl, ⟨vs, same_l w1.same q⟩, k _ P1 W1 H1 (Step.refl P1 W1 H1) ⟨w1, it_list q l⟩⟩
  | rol ds =>
    obtain ⟨a, vs, rfl, q, l⟩ := seqD_v d1 (ds := ds) rfl
    exact ⟨a, rfl, ⟨vs, same_l w1.same q⟩, k _ P1 W1 H1 (Step.refl P1 W1 H1) ⟨w1, it_list q l⟩⟩
  | _ => exact k.elim⟩
theorem ei_tup (h : EV X E e F) : EI X E tg e (iTupD F) := PI.imp (pi_tup h) fun σ H Q ⟨P, W, ρ, w, g⟩ => ⟨P, W, ρ, w, (Go.bind g).mono fun v H1 ⟨P1, W1, a, s1, ⟨w1, d1⟩, k⟩ => by
  obtain ⟨d, ρ1⟩ := a
  cases d with
  | tup ds =>
    unfold Den at d1
    obtain ⟨a, vs, rfl, q, l⟩ := d1
    exact ⟨a, rfl, ⟨vs, same_t w1.same q⟩, k _ P1 W1 H1 (Step.refl P1 W1 H1) ⟨w1, it_tup q l⟩⟩
  | _ => exact k.elim⟩
theorem ei_str (h : EV X E e F) : EI X E tg e (iStrD F) := PI.imp (pi_str h) fun σ H Q ⟨P, W, ρ, w, g⟩ => ⟨P, W, ρ, w, (Go.bind g).mono fun v H1 ⟨P1, W1, a, s1, ⟨w1, d1⟩, k⟩ => by
  obtain ⟨d, ρ1⟩ := a
  cases d with
  | str z =>
    unfold Den at d1
    exact ⟨sT z, d1, k _ P1 W1 H1 (Step.refl P1 W1 H1) ⟨w1, it_str⟩⟩
  | _ => exact k.elim⟩
/-- by arguments -/
theorem ei_arg {t : TA → TI} {f : List D → Option (List D)} (hp : PI X tg e (t (rX X.K X.mg E (VLRel X.K X.mg) (vL As))))
    (ht : ∀ (ta : TA) σ H R, (ta σ H fun vs H1 => ∃ P ds xs, Same P H1 ∧ DenL X.K P ds vs ∧ f ds = some xs ∧ ∀ J, ItOk X.K J P xs → R J H1) → (∀ Q Q' : List V → Hp → Prop, (∀ vs H1, Q vs H1 → Q' vs H1) → ta σ H Q → ta σ H Q') → t ta σ H R) :
    EI X E tg e (iArg f As) := PI.imp hp fun σ H R ⟨P, W, ρ, w, g⟩ => by
  refine ht _ σ H R ⟨P, W, ρ, w, (Go.bind g).mono fun vs H1 ⟨P1, W1, a, s1, ⟨w1, l1⟩, k⟩ => ?_⟩ (fun Q Q' h ⟨P, W, ρ, w, g⟩ => ⟨P, W, ρ, w, g.mono h⟩)
  obtain ⟨xs, e, k⟩ := Go.of k
  exact ⟨P1, a.1, xs, w1.same, l1, e, fun J ok => k J P1 W1 H1 (Step.refl P1 W1 H1) ⟨w1, ok⟩⟩
theorem okI_b {j : Int} (h : okI j = true) : -(2 ^ 62) ≤ j ∧ j < 2 ^ 62 := by
  unfold okI at h
  simp only [Bool.and_eq_true, decide_eq_true_eq] at h
  omega
theorem DenL.iint {K : PySem.W.Frag} {P : Hp} {i : Int} {v : V} (h : Den K P (.int i) v) : v = .int i := by unfold Den at h; exact h
theorem ht_rng1 (ta : TA) (σ : St) (H : Hp) (R : It → Hp → Prop) (h : ta σ H fun vs H1 => ∃ P ds xs, Same P H1 ∧ DenL K P ds vs ∧ rng1 ds = some xs ∧ ∀ J, ItOk K J P xs → R J H1)
    (mo : ∀ Q Q' : List V → Hp → Prop, (∀ vs H1, Q vs H1 → Q' vs H1) → ta σ H Q → ta σ H Q') : iRng1 ta σ H R := by
  refine mo _ _ (fun vs H1 ⟨P, ds, xs, s, l, e, k⟩ => ?_) h
  unfold rng1 at e
  split at e
  · split at e
    · rename_i hj
      cases e
      obtain ⟨v, rfl, dv⟩ := DenL.one l
      rw [DenL.iint dv]
      exact ⟨_, rfl, (okI_b hj).1, (okI_b hj).2, k _ it_range⟩
    · cases e
  · cases e
theorem ht_enum (ta : TA) (σ : St) (H : Hp) (R : It → Hp → Prop) (h : ta σ H fun vs H1 => ∃ P ds xs, Same P H1 ∧ DenL K P ds vs ∧ enu1 ds = some xs ∧ ∀ J, ItOk K J P xs → R J H1)
    (mo : ∀ Q Q' : List V → Hp → Prop, (∀ vs H1, Q vs H1 → Q' vs H1) → ta σ H Q → ta σ H Q') : iEnum K ta σ H R := by
  refine mo _ _ (fun vs H1 ⟨P, ds, xs, s, l, e, k⟩ => ?_) h
  unfold enu1 at e
  split at e
  · obtain ⟨v, rfl, dv⟩ := DenL.one l
    obtain ⟨es, e1, rfl⟩ := Option.map_eq_some_iff.mp e
    obtain ⟨a, ws, rfl, q, l2⟩ := seqD_v dv e1
    exact ⟨a, ws, rfl, same_l s q, k _ (it_enum q l2)⟩
  · cases e
end
/-! ### comprehensions -/
def noX {α : Type} : Res α → Res α
  | .ok a => .ok a
  | _ => .fail
theorem noX_ok {α : Type} (a : α) : noX (.ok a) = .ok a := rfl
def shE : Option T → Option T
  | some (.sh d) => some (.sh d)
  | _ => none
def backE (own : List Nat) (ρ0 ρ : Env) : Env := own.foldl (fun ρ i => ρ.set i (shE (ρ0.getD i none))) ρ
def bTrue : BM := fun ρ => .ok (true, ρ)
def cmpL (own : List Nat) (g : GM) (C : BM) (F : EM) : List D → List D → Env → Res (T × Env)
  | [], acc, ρ => .ok (.lst acc, ρ)
  | x :: xs, acc, ρ => Res.of (g x (wipeE own ρ)) >>= fun ρ1 => noX (C ρ1) >>= fun b => if b.1 then noX (F b.2) >>= fun d => if acc.length < 1000000 then cmpL own g C F xs (acc ++ [d.1]) (backE own ρ d.2) else .fail
    else cmpL own g C F xs acc (backE own ρ b.2)
def tComp (own : List Nat) (g : GM) (I : IM) (C : BM) (F : EM) : OM := fun ρ => I ρ >>= fun a => cmpL own g C F a.1 [] a.2
def E0 : WX := fun _ _ _ _ => False
section
variable {K : PySem.W.Frag} {mg : Str → Option Value} {P P' H H' : Hp} {W W' : Own} {σ σ' : St} {ρ ρ' : Env}
theorem wipeE_len (is : List Nat) : ∀ ρ : Env, (wipeE is ρ).length = ρ.length := by
  induction is with
  | nil => intro ρ; rfl
  | cons i is ih => intro ρ; show (wipeE is (ρ.set i none)).length = _; rw [ih]; simp
theorem wipeE_some (is : List Nat) : ∀ {ρ : Env} {i : Nat} {t : T}, (wipeE is ρ)[i]? = some (some t) → ρ[i]? = some (some t) ∧ i ∉ is := by
  induction is with
  | nil => intro ρ i t h; exact ⟨h, by simp⟩
  | cons k is ih =>
    intro ρ i t h
    obtain ⟨h1, h2⟩ := ih (ρ := ρ.set k none) h
    by_cases e : k = i
    · subst e
      by_cases hl : k < ρ.length
      · rw [List.getElem?_set_self hl] at h1; cases h1
      · rw [List.getElem?_eq_none (by simpa using hl)] at h1; cases h1
    · rw [List.getElem?_set_ne e] at h1
      exact ⟨h1, by simp [h2, Ne.symm e]⟩
theorem Wd.inBlk (w : Wd K mg P W H σ ρ) (own : List Nat) : Wd K mg P W H (L2.wipe σ own) (wipeE own ρ) := by
  refine ⟨w.same, w.own, fun i t e => ?_, by rw [wipeE_len, wipe_length]; exact w.len⟩
  obtain ⟨h1, h2⟩ := wipeE_some own e
  obtain ⟨v, hs, hr⟩ := w.env i t h1
  exact ⟨v, by rw [wipe_out h2]; exact hs, hr⟩
theorem backE_len (own : List Nat) (ρ0 : Env) : ∀ ρ : Env, (backE own ρ0 ρ).length = ρ.length := by
  induction own with
  | nil => intro ρ; rfl
  | cons i is ih => intro ρ; show (backE is ρ0 (ρ.set i _)).length = _; rw [ih]; simp
theorem backE_some (own : List Nat) (ρ0 : Env) : ∀ {ρ : Env} {i : Nat} {t : T}, (backE own ρ0 ρ)[i]? = some (some t) → (ρ[i]? = some (some t) ∧ i ∉ own) ∨ (∃ d, t = .sh d ∧ ρ0[i]? = some (some (.sh d))) := by
  induction own with
  | nil => intro ρ i t h; exact .inl ⟨h, by simp⟩
  | cons k is ih =>
    intro ρ i t h
    rcases ih (ρ := ρ.set k (shE (ρ0.getD k none))) h with ⟨h1, h2⟩ | h1
    · by_cases e : k = i
      · subst e
        by_cases hl : k < ρ.length
        · rw [List.getElem?_set_self hl] at h1
          have h1 := Option.some.inj h1
          rw [List.getD_eq_getElem?_getD] at h1
          cases q : ρ0[k]? with
          | none => rw [q] at h1; cases h1
          | some o =>
            cases o with
            | none => rw [q] at h1; cases h1
            | some t' =>
              rw [q] at h1
              cases t' with
              | sh d => cases h1; exact .inr ⟨d, rfl, rfl⟩
              | _ => cases h1
        · rw [List.getElem?_eq_none (by simpa using hl)] at h1; cases h1
      · rw [List.getElem?_set_ne e] at h1
        exact .inl ⟨h1, by simp [h2, Ne.symm e]⟩
    · exact .inr h1
theorem Wd.outBlk {own : List Nat} {ρ0 : Env} {P0 H0 : Hp} {W0 : Own} (w : Wd K mg P W H σ' ρ) (w0 : Wd K mg P0 W0 H0 σ ρ0) (s : Same P0 P) (hw : L2.wipe σ' own = L2.wipe σ own) : Wd K mg P W H σ (backE own ρ0 ρ) := by
  refine ⟨w.same, w.own, fun i t e => ?_, ?_⟩
  · rcases backE_some own ρ0 e with ⟨h1, h2⟩ | ⟨d, rfl, h1⟩
    · obtain ⟨v, hs, hr⟩ := w.env i t h1
      have q := congrArg (fun l : St => l[i]?) hw
      simp only [wipe_out h2] at q
      exact ⟨v, by rw [← q]; exact hs, hr⟩
    · obtain ⟨v, hs, hr⟩ := w0.env i _ h1
      exact ⟨v, hs, Den.mono s _ _ hr⟩
  · rw [backE_len]
    have q := congrArg List.length hw
    rw [wipe_length, wipe_length] at q
    rw [← q]; exact w.len
/-- an object that nobody owns changes -/
theorem Wd.other {D : Addr} {o : HO} (w : Wd K mg P W H σ ρ) (hp : P D = none) (hw : W D = none) : Wd K mg P W (upd H D o) σ ρ := by
  refine ⟨fun a u e => ?_, fun a r e => ?_, fun i t e => ?_, w.len⟩
  · rw [upd_ne (ne_of_none e hp)]; exact w.same a u e
  · obtain ⟨h1, u, h2⟩ := w.own a r e
    have : a ≠ D := fun z => by subst z; rw [hw] at e; cases e
    exact ⟨h1, u, by rw [upd_ne this]; exact h2⟩
  · obtain ⟨v, hs, hr⟩ := w.env i t e
    refine ⟨v, hs, RT.mono (same_refl P) (fun f x ex => ⟨ex, fun o h => ?_⟩) t v hr⟩
    have : x ≠ D := fun z => by subst z; rw [hw] at ex; cases ex
    rw [upd_ne this]; exact h
/-- an object that nobody owns is taken in hand -/
theorem Wd.adopt {A : Addr} {ds : List D} {vs : List V} (w : Wd K mg P W H σ ρ) (hp : P A = none) (hw : W A = none) (hh : H A = some (.lst vs)) (l : DenL K P ds vs) : Wd K mg P (ownNew W A none) H σ ρ ∧ RT K mg P (ownNew W A none) H none (.lst ds) (.ref A) := by
  refine ⟨⟨w.same, fun a r e => ?_, fun i t e => ?_, w.len⟩, A, vs, rfl, by unfold ownNew; rw [if_pos rfl], hh, l⟩
  · unfold ownNew at e
    by_cases h : a = A
    · subst h; exact ⟨hp, _, hh⟩
    · rw [if_neg h] at e; exact w.own a r e
  · obtain ⟨v, hs, hr⟩ := w.env i t e
    refine ⟨v, hs, RT.mono (same_refl P) (fun f x ex => ⟨?_, fun o h => h⟩) t v hr⟩
    have : x ≠ A := fun z => by subst z; rw [hw] at ex; cases ex
    unfold ownNew; rw [if_neg this]; exact ex
end
section
variable {X : Cx} {E : WX}
theorem go_no {α β γ : Type} {K : PySem.W.Frag} {mg : Str → Option Value} {Rel : Hp → Own → Hp → St → β → γ → Prop} {r : Res α} {k : α → Res β} {P H : Hp} {W : Own} {σ : St} {Q : γ → Hp → Prop} (h : Go K mg E Rel (noX r >>= k) P W H σ Q) : ∃ a, r = .ok a ∧ Go K mg E Rel (k a) P W H σ Q := by
  cases r with
  | ok a => exact ⟨a, rfl, h⟩
  | exc x ρ => exact h.elim
  | fail => exact h.elim
theorem comp_red {own : List Nat} {g : GM} {I : IM} {C : BM} {F : EM} {sl : List Nat} {σ : St} {H : Hp} {Q : VK} {K : PySem.W.Frag} {mg : Str → Option Value} (hsl : ∀ i ∈ sl, i ∈ own)
    (h : rX K mg E (TRel K mg) (tComp own g I C F) σ H Q) : tLc (rX K mg E (IRel K mg) I) (rG K mg sl g) (rB K mg E0 C) (rX K mg E0 (VRel K mg) F) own σ H Q := by
  obtain ⟨P, W, ρ, w, g0⟩ := h
  refine ⟨P, W, ρ, w, (Go.bind g0).mono fun J H1 ⟨P1, W1, a, s1, ⟨w1, ok⟩, k⟩ => fun D hD => ?_⟩
  have wD : W1 D = none := by
    cases q : W1 D with
    | none => rfl
    | some r => obtain ⟨_, u, e⟩ := w1.own D r q; rw [hD] at e; cases e
  have pD : P1 D = none := same_none w1.same hD
  refine ⟨fun i m H2 => m = a.1.length - i ∧ i ≤ a.1.length ∧ ∃ P2 W2 ρ2 acc vacc, Wd K mg P2 W2 H2 σ ρ2 ∧ Step P1 W1 H1 P2 W2 H2 ∧ H2 D = some (.lst vacc) ∧ P2 D = none ∧ W2 D = none ∧ DenL K P2 acc vacc ∧
    Go K mg E (TRel K mg) (cmpL own g C F (a.1.drop i) acc ρ2) P1 W1 H1 σ Q, ⟨a.1.length, by simp, Nat.zero_le _, P1, W1, a.2, [], [], w1.other pD wD, ?_, upd_same, pD, wD, DenL.nil, k⟩, ?_⟩
  · exact ⟨same_refl P1, fun x o hx wx => ⟨by rw [upd_ne (ne_of_none hx hD)]; exact hx, wx, rfl⟩⟩
  · rintro i m H2 ⟨rfl, hi, P2, W2, ρ2, acc, vacc, w2, st, hD2, pD2, wD2, dn, k2⟩
    by_cases hlt : i < a.1.length
    · rw [List.drop_eq_getElem_cons hlt] at k2
      unfold cmpL at k2
      obtain ⟨ρ3, eg, k3⟩ := Go.of k2
      refine .inr ⟨ok.go i P2 H2 st.1 w2.same hlt, fun H3 => ∃ P3 W3 ρ4 acc' vacc', Wd K mg P3 W3 H3 σ ρ4 ∧ Step P1 W1 H1 P3 W3 H3 ∧ H3 D = some (.lst vacc') ∧ P3 D = none ∧ W3 D = none ∧ DenL K P3 acc' vacc' ∧
        Go K mg E (TRel K mg) (cmpL own g C F (a.1.drop (i + 1)) acc' ρ4) P1 W1 H1 σ Q, fun H3 q => ⟨a.1.length - (i + 1), by omega, rfl, hlt, q⟩, fun x H3 y => ?_⟩
      obtain ⟨P3, al, dx⟩ := ok.yld i P2 H2 x H3 _ st.1 w2.same (List.getElem?_eq_getElem hlt) y
      refine ⟨P3, W2, wipeE own ρ2, _, ρ3, (w2.al al).inBlk own, dx, eg, fun σ4 P4 W4 H4 s4 w4 k4 => ?_⟩
      have hw4 : L2.wipe σ4 own = L2.wipe σ own := by
        apply List.ext_getElem?
        intro j
        by_cases hj : j ∈ own
        · have none_of : ∀ τ : St, j ∈ own → τ.length = σ.length → (L2.wipe τ own)[j]? = if j < σ.length then some none else none := fun τ hm hl => by
            cases q : (L2.wipe τ own)[j]? with
            | none =>
              have : (L2.wipe τ own).length ≤ j := List.getElem?_eq_none_iff.mp q
              rw [wipe_length, hl] at this
              rw [if_neg (by omega)]
            | some o =>
              have hl2 : j < (L2.wipe τ own).length := (List.getElem?_eq_some_iff.mp q).1
              rw [wipe_length, hl] at hl2
              rw [if_pos hl2]
              cases o with
              | none => rfl
              | some v => exact absurd hm (wipe_some q).2
          rw [none_of σ4 hj (by have := k4.1; rw [wipe_length] at this; exact this), none_of σ hj rfl]
        · rw [wipe_out hj, wipe_out hj]
          have := k4.2 j (fun z => hj (hsl j z))
          rw [this, wipe_out hj]
      refine ⟨hw4, ?_⟩
      have st4 : Step P2 W2 H2 P4 W4 H4 := (al.step W2).trans s4
      obtain ⟨b, eb, k5⟩ := go_no k3
      refine ⟨P4, W4, ρ3, w4, ?_⟩
      rw [eb]
      refine fun P5 W5 H5 s5 w5 => ?_
      have st5 : Step P2 W2 H2 P5 W5 H5 := st4.trans s5
      have hD5 := st5.2 D _ hD2 wD2
      dsimp only
      by_cases hb : b.1 = true
      · rw [if_pos hb] at k5
        rw [if_pos hb]
        obtain ⟨d, ed, k6⟩ := go_no k5
        refine ⟨P5, W5, b.2, w5, ?_⟩
        rw [ed]
        refine fun v P6 W6 H6 s6 ⟨w6, d6⟩ => ?_
        have st6 : Step P2 W2 H2 P6 W6 H6 := st5.trans s6
        obtain ⟨h1, h2, h3⟩ := st6.2 D _ hD2 wD2
        split at k6
        · rename_i hlen
          refine ⟨vacc, h1, by rw [dn.len]; exact szLt hlen, P6, W6, _, acc ++ [d.1], vacc ++ [v], (w6.outBlk w2 st6.1 hw4).other (h3.trans pD2) h2, ?_, upd_same, h3.trans pD2, h2, DenL.append (DenL.mono st6.1 _ _ dn) (DenL.cons d6 DenL.nil), k6⟩
          have s0 := st.trans st6
          refine ⟨s0.1, fun z o hz wz => ?_⟩
          obtain ⟨a1, a2, a3⟩ := s0.2 z o hz wz
          exact ⟨by rw [upd_ne (ne_of_none hz hD)]; exact a1, a2, a3⟩
        · exact k6.elim
      · rw [if_neg hb] at k5
        rw [if_neg hb]
        obtain ⟨h1, h2, h3⟩ := hD5
        exact ⟨P5, W5, _, acc, vacc, w5.outBlk w2 st5.1 hw4, st.trans st5, h1, h3.trans pD2, h2, DenL.mono st5.1 _ _ dn, k5⟩
    · have e : i = a.1.length := by omega
      subst e
      rw [List.drop_length] at k2
      refine .inl ⟨ok.stop P2 H2 st.1 w2.same, ?_⟩
      obtain ⟨wa, ra⟩ := w2.adopt pD2 wD2 hD2 dn
      refine k2 (.ref D) P2 (ownNew W2 D none) H2 ⟨st.1, fun z o hz wz => ?_⟩ ⟨wa, ra⟩
      obtain ⟨a1, a2, a3⟩ := st.2 z o hz wz
      have : z ≠ D := ne_of_none hz hD
      exact ⟨a1, by unfold ownNew; rw [if_neg this]; exact a2, a3⟩
end
section
variable {X : Cx} {E : WX} {md : List Bool} {elt tg iter : Expr} {ifs : List Expr} {scope : Scope} {own : List (Str × Nat)} {pos : Pos} {g : GM} {I : IM} {C : BM} {F : EM} {sl : List Nat}
theorem PTs.imp {X : Cx} {e : List Expr} {t t' : TT} (h : PTs X e t) (q : ∀ σ H Q, t' σ H Q → t σ H Q) : PTs X e t' := ⟨fun pins s σ H Q I hq => h.run pins s σ H Q I (q σ H Q hq)⟩
def ETs (X : Cx) (E : WX) (e : List Expr) (C : BM) : Prop := PTs X e (rB X.K X.mg E C)
theorem ets_nil {X : Cx} : ETs X E0 [] bTrue := PTs.imp pts_nil fun σ H Q ⟨P, W, ρ, w, g⟩ => g P W H (Step.refl P W H) w
theorem ets_one {X : Cx} {c : Expr} {C : BM} (h : EB X E0 c C) : ETs X E0 [c] C := pts_one h
abbrev Blk (X : Cx) (scope : Scope) (s : Shared) (H : Hp) (C : Addr) (cl : List (Str × Addr)) (fp : List Addr) : Cx := X.blk s H scope (compEnvC scope cl C X.env) fp
theorem et_comp (hc : X.calm = true) (hN : X.N.Nodup) (hi : EI X E tg iter I) (ok : BlkOk X.N X.env.scope scope own) (hsl : ∀ i ∈ sl, i ∈ own.map (·.2))
    (hg : ∀ s H A cl fp, GD (Blk X scope s H A cl fp) sl tg g) (ht : ∀ s H A cl fp, ETs (Blk X scope s H A cl fp) E0 ifs C) (he : ∀ s H A cl fp, EV (Blk X scope s H A cl fp) E0 elt F)
    (hs : ∀ x, foldedSetIterable iter X.env x = pure x := by intro _; rfl) : ET X E (.ListComp elt [⟨tg, iter, ifs, 0⟩] scope pos) (tComp (own.map (·.2)) g I C F) :=
  PE.imp (pe_lc (g := rG X.K X.mg sl g) (tt := rB X.K X.mg E0 C) (te := rX X.K X.mg E0 (VRel X.K X.mg) F) hc hN hi ok hg ht he hs) fun σ H Q h => comp_red hsl h
theorem sd_setC {i : Nat} {y : Str} {py spos : Pos} (hc : X.calm = true) (hN : X.N.Nodup) (hy : X.N[i]? = some y) (hyl : X.env.scope.names.lookup y = some .local)
    (hsw : swapsWith (.ListComp elt [⟨tg, iter, ifs, 0⟩] scope pos) (some (.Name y py)) spos.line X.env = pure true) (hi : EI X E tg iter I) (ok : BlkOk X.N X.env.scope scope own) (hsl : ∀ i ∈ sl, i ∈ own.map (·.2))
    (hg : ∀ s H A cl fp, GD (Blk X scope s H A cl fp) sl tg g) (ht : ∀ s H A cl fp, ETs (Blk X scope s H A cl fp) E0 ifs C) (he : ∀ s H A cl fp, EV (Blk X scope s H A cl fp) E0 elt F)
    (hk : md[i]? ≠ some true) (hs : ∀ x, foldedSetIterable iter X.env x = pure x := by intro _; rfl) : SD X E md (.Assign [.Name y py] (.ListComp elt [⟨tg, iter, ifs, 0⟩] scope pos) spos) (sSet i (tComp (own.map (·.2)) g I C F)) :=
  sd_set (PS.imp (ps_setLc (g := rG X.K X.mg sl g) (tt := rB X.K X.mg E0 C) (te := rX X.K X.mg E0 (VRel X.K X.mg) F) hc hN hy hyl hsw hi ok hg ht he hs) fun D σ H h => comp_red hsl h) hk
end
end Od
namespace Od
open PySem PySem.Spec L2
open PyProof.Rows hiding St
/-! ### defs that are called while no text of a list is in the making -/
structure RoomG (k : Nat) (A : Around) : Prop extends Room k A where
  gd : A.guards = some []
theorem RoomG.mono {j k : Nat} {A : Around} (r : RoomG k A) (h : j ≤ k) : RoomG j A := ⟨r.toRoom.mono h, r.gd⟩
structure FnG (P : Program) (w : World) (K : PySem.W.Frag) (mg : Str → Option Value) (base : Heap) (CX : CXT) (k : Nat) (f : Addr) (fd : FuncData) (ps : List Str) (sp : Sp) : Prop where
  ln : ∀ vs H Q E, sp vs H Q E → vs.length = ps.length
  go : ∀ {A : Around} {outer : List PySem.Env} {s : Shared} {H : Hp} {ar : Args} {us : List Value} {vs : List V} {Q : VK} {E : XK}, RoomG k A → Env0 P w K mg base A outer s H → BindsTo s fd ar (ps.zip us) → Vals vs us → sp vs H Q E → codeAny (model P w) A (.call (.ref f) ar) (CR CX outer P w H s Q E) s
section
variable {P : Program} {w : World} {K : PySem.W.Frag} {mg : Str → Option Value} {base : Heap} {CX : CXT} {j k : Nat} {f : Addr} {fd : FuncData} {ps : List Str} {sp sp' : Sp}
theorem FnG.mono (F : FnG P w K mg base CX j f fd ps sp) (h : j ≤ k) : FnG P w K mg base CX k f fd ps sp := ⟨F.ln, fun hr => F.go (hr.mono h)⟩
theorem FnG.imp (F : FnG P w K mg base CX k f fd ps sp) (h : ∀ vs H Q E, sp' vs H Q E → sp vs H Q E) : FnG P w K mg base CX k f fd ps sp' := ⟨fun vs H Q E q => F.ln vs H Q E (h vs H Q E q), fun hr he hb hv q => F.go hr he hb hv (h _ _ _ _ q)⟩
theorem okG {x qual : Str} {st : Stmt} {N : List Str} (F : Fun K x qual st f fd) (S : FnScope N ps (defScope st)) (len : ∀ vs H Q E, sp vs H Q E → vs.length = ps.length)
    (hbody : ∀ (cdv : Value) (A : Around) (outer : List PySem.Env) (s : Shared) (H : Hp) (vs : List V) (Q : VK) (E : XK), RoomG k (A.deeper (envOfC qual (defScope st) s.heap.objs.size f cdv)) → sp vs H Q E →
      ∃ t, PSs (cxOf (L2.CX P w) P w K mg base N qual (defScope st) f cdv A outer s H E) (defBody st) t ∧ t { nx := fun _ H' => Q .non H', rt := Q } (start N vs) H) : FnG P w K mg base (L2.CX P w) (k + 1) f fd ps sp := by
  obtain ⟨oc, od, kV, doc, pm, an, cdv, ct, osl, rfl, lk, hcd⟩ := F.ex
  refine ⟨len, ?_⟩
  intro A outer s H ar us vs Q E hr e0 hb rv q
  have ln := len _ _ _ _ q
  have all : ∀ b o, base.get? b = some o → s.heap.get? b = some o := fun b o e => (e0.bs b o e).1
  have kin : K.In s.heap := e0.mod.kin.keeps all
  have nol : s.heap.NoLimit := e0.mod.nolimit.keeps all
  refine codeAny_call_function hr.toRoom.depth (kin _ _ lk) rfl S.co S.gen rfl (PySem.W.codeRec_of kin hcd) (hb _ _ _ _ ?_)
  refine wpAny_newFunctionEnv_cells S.kind (fun z hz => ?_) ?_
  · obtain ⟨n, u⟩ := z
    rcases S.par n (List.of_mem_zip hz).1 with g | g
    · exact Or.inl g
    · exact Or.inr ⟨g, PySem.W.cellsFrom_some _ _ _ (Or.inl g)⟩
  intro env he s1 fresh
  subst he
  refine ⟨nol.keeps fresh.toInCall.keep, codeAny_func ?_⟩
  obtain ⟨t, pt, qt⟩ := hbody cdv A outer s H vs Q E ⟨hr.toRoom.deeper _, hr.gd⟩ q
  have I := inv_start (CX := L2.CX P w) (E := E) S hr.hd e0 ln rv fresh
  refine wpAny_mono (pt.run [] s1 (start N vs) H _ I qt) ?_ fun _ _ z => z
  intro fl s2 z
  cases fl with
  | next =>
    obtain ⟨σ2, H2, J, y⟩ := z
    exact ⟨V.non, H2, J.os, J.bare, J.base, J.hok, rfl, y⟩
  | ret u =>
    obtain ⟨v, σ2, H2, J, r2, y⟩ := z
    exact ⟨v, H2, J.os, J.bare, J.base, J.hok, r2, y⟩
  | brk => exact z.elim fun _ z => z.elim fun _ z => z.2.elim
  | cont => exact z.elim fun _ z => z.elim fun _ z => z.2.elim
end
section
variable {X : Cx} {CX : CXT} {k : Nat} {f : Addr} {fd : FuncData} {ps : List Str} {sp : Sp} {E : St → XK} {x : Str} {p pos : Pos} {e : Expr} {es : List Expr} {t : TA}
theorem runG {pins : List (Addr × Obj)} {σ : St} {H : Hp} {s : Shared} {Q : VK} {us : List Value} {vs : List V} (F : FnG X.prog X.w X.K X.mg X.base CX k f fd ps sp) (hr : RoomG k X.A) (hb : Binds X.K fd ps []) (hx : PassesAt CX X σ (E σ))
    (I : Inv X pins σ H s) (rv : Vals vs us) (q : sp vs H Q (E σ)) : wpAny (model X.prog X.w) X.A (call (.ref f) us) (EP X pins σ Q) X.xe s := by
  have ln : us.length = ps.length := by rw [← rv.length]; exact F.ln _ _ _ _ q
  have bt : BindsTo s fd ⟨us, []⟩ (ps.zip us) := by
    have := hb s us I.kIn (by rw [List.append_nil]; exact ln)
    rwa [List.append_nil] at this
  refine wpAny_call (codeAny_mono (F.go hr I.env0 bt rv q) ?_)
  rintro (e | fl) s2 z
  · exact hx pins H s e s2 I z
  · cases fl with
    | ret u => exact I.after z
    | next => exact z.elim
    | brk => exact z.elim
    | cont => exact z.elim
def tCallG (sp : Sp) (E : St → XK) (t : TA) : TE := fun σ H Q => t σ H fun vs H1 => sp vs H1 Q (E σ)
theorem pe_callG (F : FnG X.prog X.w X.K X.mg X.base CX k f fd ps sp) (hr : RoomG k X.A) (hg : Gl X x) (hm : X.mg x = some (.ref f)) (hk : PySem.W.keepIn X.K (.ref f) = true) (hb : Binds X.K fd ps []) (hx : ∀ σ, PassesAt CX X σ (E σ))
    (ha : PA X (e :: es) t) (hdb : (x == ("__debug__" : Str)) = false) (he : starEach (e :: es) X.env = (false, eval e X.env) :: starEach es X.env) (hpl : (backTo pos (starEach es X.env)).any (·.1) = false) :
    PE X (.Call (.Name x p) (e :: es) [] pos) (tCallG sp E t) := by
  constructor
  intro pins s σ H Q I q
  refine wpAny_Call_Name_kw (ld_glob I hg hm ?_ hdb)
  refine PySem.W.callWith_K (h₀ := X.base) I.ok.mod.kin hk (thn (ha.run pos pins s σ H _ I q) ?_) he hpl
  rintro us s1 ⟨vs, H1, J, rv, z⟩
  exact ⟨J.kIn, runG F hr hb (hx σ) J rv z⟩
end
/-! ### defs: what they give, as a function of what they are handed -/
inductive Out where
  | ok (t : T) (os : Env) | exc (x : Exn) (os : Env) | fail
abbrev Fn := List T → Out
def spF (K : PySem.W.Frag) (mg : Str → Option Value) (f : Fn) : Sp := fun vs H Q E => ∃ P W ts, Wd K mg P W H (vs.map some) (ts.map some) ∧ ts.length = vs.length ∧ match f ts with
  | .ok t os => ∀ v P' W' H', Step P W H P' W' H' → Wd K mg P' W' H' (vs.map some) os → RT K mg P' W' H' none t v → Q v H'
  | .exc x os => ∀ c od P' W' H', Step P W H P' W' H' → Wd K mg P' W' H' (vs.map some) os → XR K mg P' H' x c od → E c od H'
  | .fail => False
def maskE : List Bool → Env → Env
  | [], _ => []
  | b :: bs, ρ => (if b then ρ.head?.join else none) :: maskE bs ρ.tail
def fnOf (N n : Nat) (md : List Bool) (B : SM) : Fn := fun ts => if ts.length = n then match B (ts.map some ++ List.replicate (N - n) none) with
  | .ok (.rt t ρ) => .ok t (maskE md ρ)
  | .ok (.nx ρ) => .ok (.sh .non) (maskE md ρ)
  | .exc x ρ => .exc x (maskE md ρ)
  | _ => .fail else .fail
theorem maskE_len : ∀ (md : List Bool) (ρ : Env), (maskE md ρ).length = md.length
  | [], _ => rfl
  | b :: bs, ρ => by show (maskE bs ρ.tail).length + 1 = _; rw [maskE_len bs]; rfl
theorem maskE_some : ∀ {md : List Bool} {ρ : Env} {i : Nat} {t : T}, (maskE md ρ)[i]? = some (some t) → md[i]? = some true ∧ ρ[i]? = some (some t)
  | [], ρ, i, t, h => by simp [maskE] at h
  | b :: bs, ρ, 0, t, h => by
    simp only [maskE, List.getElem?_cons_zero, Option.some.injEq] at h
    split at h
    · rename_i hb
      cases ρ with
      | nil => cases h
      | cons o r => simp at h; subst h; simp [hb]
    · cases h
  | b :: bs, ρ, i + 1, t, h => by
    simp only [maskE, List.getElem?_cons_succ] at h
    obtain ⟨h1, h2⟩ := maskE_some h
    refine ⟨by simpa using h1, ?_⟩
    cases ρ with
    | nil => simp at h2
    | cons o r => simpa using h2
section
variable {P : Program} {w : World} {K : PySem.W.Frag} {mg : Str → Option Value} {base : Heap}
theorem start_get {N : List Str} {vs : List V} {i : Nat} (h : i < vs.length) : (L2.start N vs)[i]? = (vs.map some)[i]? := by
  unfold L2.start
  rw [List.getElem?_append_left (by simpa using h)]
theorem fn_ok {x qual : Str} {st : Stmt} {f : Addr} {fd : FuncData} {N ps : List Str} {k : Nat} {md : List Bool} {B : SM} (F : Fun K x qual st f fd) (S : FnScope N ps (defScope st)) (hmd : md.length ≤ ps.length)
    (hB : ∀ (cdv : Value) (A : Around) (outer : List PySem.Env) (s : Shared) (H : Hp) (E : XK), RoomG k (A.deeper (envOfC qual (defScope st) s.heap.objs.size f cdv)) → SDs (cxOf (L2.CX P w) P w K mg base N qual (defScope st) f cdv A outer s H E) (fun c d _ H => E c d H) md (defBody st) B) :
    FnG P w K mg base (L2.CX P w) (k + 1) f fd ps (spF K mg (fnOf N.length ps.length md B)) := by
  refine okG F S (fun vs H Q E h => ?_) (fun cdv A outer s H vs Q E hr h => ⟨_, hB cdv A outer s H E hr, ?_⟩)
  · obtain ⟨P', W, ts, _, hl, m⟩ := h
    unfold fnOf at m
    by_cases e : ts.length = ps.length
    · rw [← hl]; exact e
    · rw [if_neg e] at m; exact m.elim
  · obtain ⟨P', W, ts, wd, hl, m⟩ := h
    unfold fnOf at m
    by_cases e : ts.length = ps.length
    · rw [if_pos e] at m
      have hvl : vs.length = ps.length := hl.symm.trans e
      have hpl : ps.length ≤ N.length := by have := congrArg List.length S.pre; rw [List.length_take] at this; omega
      have wd0 : Wd K mg P' W H (L2.start N vs) (ts.map some ++ List.replicate (N.length - ps.length) none) := by
        refine ⟨wd.same, wd.own, fun i t ei => ?_, ?_⟩
        · by_cases hi : i < ts.length
          · rw [List.getElem?_append_left (by simpa using hi)] at ei
            obtain ⟨v, hs, hr⟩ := wd.env i t ei
            exact ⟨v, by rw [start_get (by omega)]; exact hs, hr⟩
          · rw [List.getElem?_append_right (by simpa using hi)] at ei
            rw [List.getElem?_replicate] at ei
            split at ei <;> cases ei
        · unfold L2.start
          simp only [List.length_append, List.length_map, List.length_replicate]
          omega
      have back : ∀ {σ' : St} {P2 : Hp} {W2 : Own} {H2 : Hp} {ρ2 : Env}, Wd K mg P2 W2 H2 σ' ρ2 → Kp md (L2.start N vs) σ' → Wd K mg P2 W2 H2 (vs.map some) (maskE md ρ2) := fun {σ' P2 W2 H2 ρ2} w2 kp => by
        refine ⟨w2.same, w2.own, fun i t ei => ?_, by rw [maskE_len]; simp; omega⟩
        obtain ⟨h1, h2⟩ := maskE_some ei
        obtain ⟨v, hs, hr⟩ := w2.env i t h2
        have hi : i < vs.length := by
          have := (List.getElem?_eq_some_iff.mp h1).1
          omega
        rw [kp.2 i h1, start_get hi] at hs
        exact ⟨v, hs, hr⟩
      refine ⟨P', W, _, wd0, ?_⟩
      cases hb : B (ts.map some ++ List.replicate (N.length - ps.length) none) with
      | ok fl =>
        rw [hb] at m
        cases fl with
        | rt t ρ2 => exact fun v σ' P2 W2 H2 st w2 kp rt => m v P2 W2 H2 st (back w2 kp) rt
        | nx ρ2 => exact fun σ' P2 W2 H2 st w2 kp => m .non P2 W2 H2 st (back w2 kp) (show Den K P2 .non .non from dnon)
        | bk ρ2 => exact m.elim
        | ct ρ2 => exact m.elim
      | exc x ρ2 =>
        rw [hb] at m
        exact fun c od σ' P2 W2 H2 st w2 kp xr => m c od P2 W2 H2 st (back w2 kp) xr
      | fail => rw [hb] at m; exact m.elim
    · rw [if_neg e] at m; exact m.elim
end
structure Cal (P : Program) (w : World) (K : PySem.W.Frag) (mg : Str → Option Value) (base : Heap) (k : Nat) (x : Str) (fn : Fn) : Prop where
  ex : ∃ (f : Addr) (fd : FuncData) (ps : List Str), FnG P w K mg base (L2.CX P w) k f fd ps (spF K mg fn) ∧ mg x = some (.ref f) ∧ PySem.W.keepIn K (.ref f) = true ∧ Binds K fd ps []
theorem spF_of {K : PySem.W.Frag} {mg : Str → Option Value} {f g : Fn} (h : ∀ ts, g ts ≠ .fail → f ts = g ts) : ∀ vs H Q E, spF K mg g vs H Q E → spF K mg f vs H Q E := fun vs H Q E ⟨P, W, ts, wd, hl, m⟩ => by
  refine ⟨P, W, ts, wd, hl, ?_⟩
  by_cases e : g ts = .fail
  · rw [e] at m; exact m.elim
  · rw [h ts e]; exact m
/-- the same where the function given is another one that agrees -/
theorem Cal.of {P : Program} {w : World} {K : PySem.W.Frag} {mg : Str → Option Value} {base : Heap} {k : Nat} {x : Str} {f g : Fn} (c : Cal P w K mg base k x f) (h : ∀ ts, g ts ≠ .fail → f ts = g ts) : Cal P w K mg base k x g := by
  obtain ⟨a, fd, ps, F, h1, h2, h3⟩ := c.ex
  exact ⟨a, fd, ps, F.imp (spF_of h), h1, h2, h3⟩
theorem Cal.mono {P : Program} {w : World} {K : PySem.W.Frag} {mg : Str → Option Value} {base : Heap} {k j : Nat} {x : Str} {f : Fn} (c : Cal P w K mg base k x f) (h : k ≤ j) : Cal P w K mg base j x f := by
  obtain ⟨a, fd, ps, F, h1, h2, h3⟩ := c.ex
  exact ⟨a, fd, ps, F.mono h, h1, h2, h3⟩
theorem Cal.mk' {P : Program} {w : World} {K : PySem.W.Frag} {mg : Str → Option Value} {base : Heap} {x qual : Str} {st : Stmt} {f : Addr} {fd : FuncData} {N ps : List Str} {k : Nat} {md : List Bool} {B : SM} (F : Fun K x qual st f fd) (hm : mg x = some (.ref f)) (hb : Binds K fd ps []) (S : FnScope N ps (defScope st)) (hmd : md.length ≤ ps.length)
    (hB : ∀ (cdv : Value) (A : Around) (outer : List PySem.Env) (s : Shared) (H : Hp) (E : XK), RoomG k (A.deeper (envOfC qual (defScope st) s.heap.objs.size f cdv)) → SDs (cxOf (L2.CX P w) P w K mg base N qual (defScope st) f cdv A outer s H E) (fun c d _ H => E c d H) md (defBody st) B) :
    Cal P w K mg base (k + 1) x (fnOf N.length ps.length md B) := ⟨f, fd, ps, fn_ok F S hmd hB, hm, F.kp, hb⟩
/-! ### calls -/
inductive Arg where
  | v (F : EM) | io (i : Nat)
def aL : List Arg → Env → Res (List (Option D) × Env)
  | [], ρ => .ok ([], ρ)
  | .v F :: as, ρ => F ρ >>= fun a => aL as a.2 >>= fun r => .ok (some a.1 :: r.1, r.2)
  | .io i :: as, ρ => match ρ[i]? with
    | some (some _) => aL as ρ >>= fun r => .ok (none :: r.1, r.2)
    | _ => .fail
def mkT : List Arg → List (Option D) → Env → Option (List T)
  | [], [], _ => some []
  | .v _ :: as, some d :: r, ρ => (mkT as r ρ).map (.sh d :: ·)
  | .io i :: as, none :: r, ρ => match ρ[i]? with
    | some (some t) => (mkT as r ρ).map (t :: ·)
    | _ => none
  | _, _, _ => none
def putB : List Arg → Env → Env → Env
  | [], _, ρ => ρ
  | .v _ :: as, os, ρ => putB as os.tail ρ
  | .io i :: as, os, ρ => putB as os.tail (ρ.set i os.head?.join)
def iosOf : List Arg → List Nat
  | [] => []
  | .v _ :: as => iosOf as
  | .io i :: as => i :: iosOf as
def nodupB : List Nat → Bool
  | [] => true
  | i :: is => !is.contains i && nodupB is
def eCall (f : Fn) (As : List Arg) : OM := fun ρ => if nodupB (iosOf As) = true then aL As ρ >>= fun a => Res.of (mkT As a.1 a.2) >>= fun ts => match f ts with
  | .ok t os => .ok (t, putB As os a.2)
  | .exc x os => .exc x (putB As os a.2)
  | .fail => .fail else .fail
section
variable (K : PySem.W.Frag) (mg : Str → Option Value)
def AOk (P : Hp) (σ : St) : List Arg → List (Option D) → List V → Prop
  | [], os, vs => os = [] ∧ vs = []
  | .v _ :: as, os, vs => ∃ d r v s, os = some d :: r ∧ vs = v :: s ∧ Den K P d v ∧ AOk P σ as r s
  | .io i :: as, os, vs => ∃ r v s, os = none :: r ∧ vs = v :: s ∧ σ[i]? = some (some v) ∧ AOk P σ as r s
def ARel (As : List Arg) (P : Hp) (W : Own) (H : Hp) (σ : St) (a : List (Option D) × Env) (vs : List V) : Prop := Wd K mg P W H σ a.2 ∧ AOk K P σ As a.1 vs
end
def EAA (X : Cx) (E : WX) (es : List Expr) (As : List Arg) : Prop := PA X es (rX X.K X.mg E (ARel X.K X.mg As) (aL As))
section
variable {K : PySem.W.Frag} {mg : Str → Option Value} {P P' H H' : Hp} {W W' : Own} {σ : St} {ρ : Env}
theorem AOk.step (s : Same P P') : ∀ {As : List Arg} {os : List (Option D)} {vs : List V}, AOk K P σ As os vs → AOk K P' σ As os vs
  | [], os, vs, h => h
  | .v _ :: as, os, vs, h => by
    obtain ⟨d, r, v, t, e1, e2, h1, h2⟩ := h
    exact ⟨d, r, v, t, e1, e2, Den.mono s _ _ h1, AOk.step s h2⟩
  | .io i :: as, os, vs, h => by
    obtain ⟨r, v, t, e1, e2, h1, h2⟩ := h
    exact ⟨r, v, t, e1, e2, h1, AOk.step s h2⟩
end
section
variable {X : Cx} {E : WX} {e : Expr} {es : List Expr}
theorem eaa_nil : EAA X E [] [] := PA.imp pa_nil fun σ H Q ⟨P, W, ρ, w, g⟩ => g [] P W H (Step.refl P W H) ⟨w, rfl, rfl⟩
theorem eaa_v {A : EM} {As : List Arg} (ha : EV X E e A) (hr : EAA X E es As) (hs : starEach (e :: es) X.env = (false, eval e X.env) :: starEach es X.env := by rfl) : EAA X E (e :: es) (.v A :: As) :=
  PA.imp (pa_cons ha hr hs) fun σ H Q ⟨P, W, ρ, w, g⟩ => ⟨P, W, ρ, w, (Go.bind g).mono fun x H1 ⟨P1, W1, a, s1, ⟨w1, k1⟩, g1⟩ => ⟨P1, W1, a.2, w1, (Go.bind g1).mono fun vs H2 ⟨P2, W2, b, s2, ⟨w2, k2⟩, g2⟩ =>
    g2 (x :: vs) P2 W2 H2 (Step.refl P2 W2 H2) ⟨w2, a.1, b.1, x, vs, rfl, rfl, Den.mono s2.1 _ _ k1, k2⟩⟩⟩
theorem eaa_io {i : Nat} {x : Str} {pos : Pos} {As : List Arg} (hN : X.N[i]? = some x) (hv : Vis X.env.scope x) (hr : EAA X E es As) (hs : starEach (.Name x pos :: es) X.env = (false, eval (.Name x pos) X.env) :: starEach es X.env := by rfl)
    (hd : (x == ("__debug__" : Str)) = false := by decide) (hcd : (x == ("__classdict__" : Str)) = false := by decide) : EAA X E (.Name x pos :: es) (.io i :: As) :=
  PA.imp (pa_cons (pe_var hN hv hd hcd) hr hs) fun σ H Q ⟨P, W, ρ, w, g⟩ => by
    unfold aL at g
    cases e : ρ[i]? with
    | none => rw [e] at g; exact g.elim
    | some o =>
      cases o with
      | none => rw [e] at g; exact g.elim
      | some t =>
        rw [e] at g
        obtain ⟨v, hσ, _⟩ := w.env i t e
        exact ⟨v, hσ, P, W, ρ, w, (Go.bind g).mono fun vs H2 ⟨P2, W2, b, s2, ⟨w2, k2⟩, g2⟩ => g2 (v :: vs) P2 W2 H2 (Step.refl P2 W2 H2) ⟨w2, b.1, v, vs, rfl, rfl, hσ, k2⟩⟩
end
/-! the callee's world -/
def posA : List Arg → Nat → Nat → Option Nat
  | [], _, _ => none
  | .v _ :: as, i, k => posA as i (k + 1)
  | .io j :: as, i, k => if j = i then some k else posA as i (k + 1)
theorem posA_some : ∀ {As : List Arg} {i k m : Nat}, posA As i k = some m → ∃ j, m = k + j ∧ As[j]? = some (.io i)
  | [], _, _, _, h => by cases h
  | .v _ :: as, i, k, m, h => by
    obtain ⟨j, e1, e2⟩ := posA_some (As := as) h
    exact ⟨j + 1, by omega, by simpa using e2⟩
  | .io j0 :: as, i, k, m, h => by
    unfold posA at h
    split at h
    · rename_i e
      cases h
      exact ⟨0, rfl, by rw [e]; rfl⟩
    · obtain ⟨j, e1, e2⟩ := posA_some (As := as) h
      exact ⟨j + 1, by omega, by simpa using e2⟩
theorem mem_ios : ∀ {As : List Arg} {i j : Nat}, As[j]? = some (.io i) → i ∈ iosOf As
  | [], _, _, h => by simp at h
  | .v _ :: as, i, 0, h => by simp at h
  | .v _ :: as, i, j + 1, h => mem_ios (As := as) (by simpa using h)
  | .io j0 :: as, i, 0, h => by simp at h; subst h; exact List.mem_cons_self
  | .io j0 :: as, i, j + 1, h => List.mem_cons_of_mem _ (mem_ios (As := as) (by simpa using h))
theorem posA_of : ∀ {As : List Arg} {i k j : Nat}, nodupB (iosOf As) = true → As[j]? = some (.io i) → posA As i k = some (k + j)
  | [], _, _, _, _, h => by simp at h
  | .v _ :: as, i, k, 0, _, h => by simp at h
  | .v _ :: as, i, k, j + 1, n, h => by
    have := posA_of (As := as) (k := k + 1) n (by simpa using h)
    show posA as i (k + 1) = _
    rw [this]; congr 1; omega
  | .io j0 :: as, i, k, 0, n, h => by simp at h; subst h; unfold posA; rw [if_pos rfl]; rfl
  | .io j0 :: as, i, k, j + 1, n, h => by
    have n' : (!(iosOf as).contains j0 && nodupB (iosOf as)) = true := n
    rw [Bool.and_eq_true] at n'
    have hm : i ∈ iosOf as := mem_ios (j := j) (by simpa using h)
    have ne : ¬ j0 = i := fun z => by
      subst z
      have := n'.1
      simp [hm] at this
    unfold posA
    rw [if_neg ne, posA_of (As := as) (k := k + 1) n'.2 (by simpa using h)]
    congr 1; omega
theorem posA_none {As : List Arg} {i k : Nat} (h : i ∉ iosOf As) : posA As i k = none := by
  cases e : posA As i k with
  | none => rfl
  | some m =>
    obtain ⟨j, _, e2⟩ := posA_some e
    exact absurd (mem_ios e2) h
theorem putB_out : ∀ {As : List Arg} {os ρ : Env} {k : Nat}, k ∉ iosOf As → (putB As os ρ)[k]? = ρ[k]?
  | [], os, ρ, k, _ => rfl
  | .v _ :: as, os, ρ, k, h => putB_out (As := as) h
  | .io j0 :: as, os, ρ, k, h => by
    have h1 : k ≠ j0 := fun z => h (by rw [z]; exact List.mem_cons_self)
    have h2 : k ∉ iosOf as := fun z => h (List.mem_cons_of_mem _ z)
    show (putB as os.tail (ρ.set j0 os.head?.join))[k]? = _
    rw [putB_out h2, List.getElem?_set_ne (Ne.symm h1)]
theorem putB_in : ∀ {As : List Arg} {os ρ : Env} {j k : Nat} {t : T}, nodupB (iosOf As) = true → As[j]? = some (.io k) → (putB As os ρ)[k]? = some (some t) → os[j]? = some (some t)
  | [], _, _, _, _, _, _, h, _ => by simp at h
  | .v _ :: as, os, ρ, 0, k, t, _, h, _ => by simp at h
  | .v _ :: as, os, ρ, j + 1, k, t, n, h, g => by
    have := putB_in (As := as) (os := os.tail) n (by simpa using h) g
    cases os with
    | nil => simp at this
    | cons o r => simpa using this
  | .io j0 :: as, os, ρ, 0, k, t, n, h, g => by
    simp at h
    subst h
    have n' : (!(iosOf as).contains j0 && nodupB (iosOf as)) = true := n
    rw [Bool.and_eq_true] at n'
    have hm : j0 ∉ iosOf as := fun z => by
      have := n'.1
      simp [z] at this
    have g : (putB as os.tail (ρ.set j0 os.head?.join))[j0]? = some (some t) := g
    rw [putB_out hm] at g
    by_cases hl : j0 < ρ.length
    · rw [List.getElem?_set_self hl] at g
      cases os with
      | nil => simp at g
      | cons o r => simpa using g
    · rw [List.getElem?_eq_none (by simpa using hl)] at g; cases g
  | .io j0 :: as, os, ρ, j + 1, k, t, n, h, g => by
    have n' : (!(iosOf as).contains j0 && nodupB (iosOf as)) = true := n
    rw [Bool.and_eq_true] at n'
    have := putB_in (As := as) (os := os.tail) n'.2 (by simpa using h) g
    cases os with
    | nil => simp at this
    | cons o r => simpa using this
theorem putB_len : ∀ (As : List Arg) (os ρ : Env), (putB As os ρ).length = ρ.length
  | [], _, _ => rfl
  | .v _ :: as, os, ρ => putB_len as os.tail ρ
  | .io j0 :: as, os, ρ => by show (putB as os.tail (ρ.set j0 _)).length = _; rw [putB_len]; simp
def ownIn (As : List Arg) (W : Own) : Own := fun a => match W a with
  | some (some i, f) => (match posA As i 0 with | some j => some (some j, f) | none => none)
  | _ => none
def ownBack (As : List Arg) (W W' : Own) : Own := fun a => match W' a with
  | some (some j, f) => (match As[j]? with | some (.io i) => some (some i, f) | _ => none)
  | some (none, f) => some (none, f)
  | none => (match ownIn As W a with | none => W a | some _ => none)
section
variable {K : PySem.W.Frag} {mg : Str → Option Value} {P P' H H' : Hp} {W W' : Own} {σ : St} {ρ os : Env}
theorem ownIn_io {As : List Arg} {a : Addr} {i j : Nat} {f : Option Tx} (n : nodupB (iosOf As) = true) (h : As[j]? = some (.io i)) (e : W a = some (some i, f)) : ownIn As W a = some (some j, f) := by
  unfold ownIn
  simp only [e, posA_of (k := 0) n h, Nat.zero_add]
theorem ownIn_out {As : List Arg} {a : Addr} {i : Nat} {f : Option Tx} (h : i ∉ iosOf As) (e : W a = some (some i, f)) : ownIn As W a = none := by
  unfold ownIn
  simp only [e, posA_none h]
theorem ownIn_some {As : List Arg} {a : Addr} {r} (h : ownIn As W a = some r) : ∃ r', W a = some r' := by
  unfold ownIn at h
  cases e : W a with
  | none => rw [e] at h; cases h
  | some r' => exact ⟨r', rfl⟩
theorem args_env : ∀ {As : List Arg} {os : List (Option D)} {vs : List V} {ts : List T}, AOk K P σ As os vs → mkT As os ρ = some ts → ts.length = vs.length ∧ As.length = vs.length ∧ ∀ (j : Nat) (t : T), ts[j]? = some t → ∃ v, vs[j]? = some v ∧
    ((∃ d, t = .sh d ∧ Den K P d v) ∨ ∃ i, As[j]? = some (.io i) ∧ ρ[i]? = some (some t) ∧ σ[i]? = some (some v))
  | [], os, vs, ts, h, m => by
    obtain ⟨rfl, rfl⟩ := h
    have : ([] : List T) = ts := Option.some.inj m
    subst this
    exact ⟨rfl, rfl, fun j t e => by simp at e⟩
  | .v F :: as, os, vs, ts, h, m => by
    obtain ⟨d, r, v, s, rfl, rfl, h1, h2⟩ := h
    obtain ⟨ts', m', rfl⟩ := Option.map_eq_some_iff.mp (show (mkT as r ρ).map (.sh d :: ·) = some ts from m)
    obtain ⟨l1, l2, ih⟩ := args_env h2 m'
    refine ⟨by simp [l1], by simp [l2], fun j t e => ?_⟩
    cases j with
    | zero => simp at e; subst e; exact ⟨v, rfl, .inl ⟨d, rfl, h1⟩⟩
    | succ j =>
      obtain ⟨u, e1, e2⟩ := ih j t (by simpa using e)
      exact ⟨u, by simpa using e1, by simpa using e2⟩
  | .io i :: as, os, vs, ts, h, m => by
    obtain ⟨r, v, s, rfl, rfl, h1, h2⟩ := h
    unfold mkT at m
    cases e : ρ[i]? with
    | none => rw [e] at m; cases m
    | some o =>
      cases o with
      | none => rw [e] at m; cases m
      | some t0 =>
        rw [e] at m
        obtain ⟨ts', m', rfl⟩ := Option.map_eq_some_iff.mp (show (mkT as r ρ).map (t0 :: ·) = some ts from m)
        obtain ⟨l1, l2, ih⟩ := args_env h2 m'
        refine ⟨by simp [l1], by simp [l2], fun j t e' => ?_⟩
        cases j with
        | zero => simp at e'; subst e'; exact ⟨v, rfl, .inr ⟨i, rfl, e, h1⟩⟩
        | succ j =>
          obtain ⟨u, e1, e2⟩ := ih j t (by simpa using e')
          exact ⟨u, by simpa using e1, by simpa using e2⟩
theorem aok_io : ∀ {As : List Arg} {os : List (Option D)} {vs : List V} {j i : Nat}, AOk K P σ As os vs → As[j]? = some (.io i) → ∃ v, vs[j]? = some v ∧ σ[i]? = some (some v)
  | [], _, _, _, _, _, h => by simp at h
  | .v F :: as, os, vs, 0, i, h, e => by simp at e
  | .v F :: as, os, vs, j + 1, i, h, e => by
    obtain ⟨d, r, v, s, rfl, rfl, h1, h2⟩ := h
    obtain ⟨u, e1, e2⟩ := aok_io h2 (show as[j]? = some (.io i) by simpa using e)
    exact ⟨u, by simpa using e1, e2⟩
  | .io i0 :: as, os, vs, 0, i, h, e => by
    obtain ⟨r, v, s, rfl, rfl, h1, h2⟩ := h
    simp at e; subst e
    exact ⟨v, rfl, h1⟩
  | .io i0 :: as, os, vs, j + 1, i, h, e => by
    obtain ⟨r, v, s, rfl, rfl, h1, h2⟩ := h
    obtain ⟨u, e1, e2⟩ := aok_io h2 (show as[j]? = some (.io i) by simpa using e)
    exact ⟨u, by simpa using e1, e2⟩
theorem Wd.callee {As : List Arg} {os : List (Option D)} {vs : List V} {ts : List T} (w : Wd K mg P W H σ ρ) (n : nodupB (iosOf As) = true) (h : AOk K P σ As os vs) (m : mkT As os ρ = some ts) : Wd K mg P (ownIn As W) H (vs.map some) (ts.map some) := by
  obtain ⟨l1, l2, ae⟩ := args_env h m
  refine ⟨w.same, fun a r e => ?_, fun j t e => ?_, by simp [l1]⟩
  · obtain ⟨r', e'⟩ := ownIn_some e
    exact w.own a r' e'
  · rw [List.getElem?_map] at e
    cases q : ts[j]? with
    | none => rw [q] at e; cases e
    | some t' =>
      rw [q] at e
      cases e
      obtain ⟨v, hv, hh⟩ := ae j t q
      refine ⟨v, by rw [List.getElem?_map, hv]; rfl, ?_⟩
      rcases hh with ⟨d, rfl, dn⟩ | ⟨i, hi, he, hs⟩
      · exact dn
      · obtain ⟨v', hs', hr⟩ := w.env i t he
        rw [hs] at hs'
        cases hs'
        exact RT.mono (same_refl P) (fun f x ex => ⟨ownIn_io n hi ex, fun o h => h⟩) t v hr
theorem Wd.back {As : List Arg} {os0 : List (Option D)} {vs : List V} (w : Wd K mg P W H σ ρ) (n : nodupB (iosOf As) = true) (h : AOk K P σ As os0 vs) (st : Step P (ownIn As W) H P' W' H') (w' : Wd K mg P' W' H' (vs.map some) os) :
    Wd K mg P' (ownBack As W W') H' σ (putB As os ρ) ∧ Step P W H P' (ownBack As W W') H' ∧ ∀ t v, RT K mg P' W' H' none t v → RT K mg P' (ownBack As W W') H' none t v := by
  have keepOwn : ∀ a r, W a = some r → ownIn As W a = none → H' a = H a ∧ W' a = none ∧ P' a = P a := fun a r e1 e2 => by
    obtain ⟨_, o, ho⟩ := w.own a r e1
    obtain ⟨h1, h2, h3⟩ := st.2 a o ho e2
    exact ⟨h1.trans ho.symm, h2, h3⟩
  refine ⟨⟨w'.same, fun a r e => ?_, fun k t e => ?_, by rw [putB_len]; exact w.len⟩, ⟨st.1, fun a o ho wa => ?_⟩, fun t v hr => RT.mono (same_refl P') (fun f x ex => ⟨by unfold ownBack; simp only [ex], fun o h => h⟩) t v hr⟩
  · unfold ownBack at e
    cases q : W' a with
    | some r' => exact w'.own a r' q
    | none =>
      simp only [q] at e
      cases q2 : ownIn As W a with
      | some r2 => simp only [q2] at e; cases e
      | none =>
        simp only [q2] at e
        obtain ⟨h1, o, h2⟩ := w.own a r e
        obtain ⟨k1, k2, k3⟩ := keepOwn a r e q2
        exact ⟨k3.trans h1, o, k1.trans h2⟩
  · by_cases hk : k ∈ iosOf As
    · have : ∃ j : Nat, As[j]? = some (Arg.io k) := by
        have aux : ∀ {As : List Arg}, k ∈ iosOf As → ∃ j : Nat, As[j]? = some (Arg.io k) := by
          intro As
          induction As with
          | nil => intro h; cases h
          | cons x as ih =>
            intro h
            cases x with
            | v F => obtain ⟨j, e⟩ := ih h; exact ⟨j + 1, by simpa using e⟩
            | io i0 =>
              rcases List.mem_cons.mp h with rfl | h
              · exact ⟨0, rfl⟩
              · obtain ⟨j, e⟩ := ih h; exact ⟨j + 1, by simpa using e⟩
        exact aux hk
      obtain ⟨j, hj⟩ := this
      have ho := putB_in n hj e
      obtain ⟨v, hv, hr⟩ := w'.env j t ho
      obtain ⟨v2, hv2, hs2⟩ := aok_io h hj
      rw [List.getElem?_map, hv2] at hv
      have hv : v2 = v := by simpa using hv
      subst hv
      exact ⟨v2, hs2, RT.mono (same_refl P') (fun f x ex => ⟨by unfold ownBack; simp only [ex, hj], fun o h => h⟩) t v2 hr⟩
    · rw [putB_out hk] at e
      obtain ⟨v, hs, hr⟩ := w.env k t e
      refine ⟨v, hs, RT.mono st.1 (fun f x ex => ?_) t v hr⟩
      have q := ownIn_out (As := As) hk ex
      obtain ⟨k1, k2, k3⟩ := keepOwn x _ ex q
      refine ⟨?_, fun o h => by rw [k1]; exact h⟩
      unfold ownBack
      simp only [k2, q]
      exact ex
  · have q : ownIn As W a = none := by unfold ownIn; simp only [wa]
    obtain ⟨h1, h2, h3⟩ := st.2 a o ho q
    exact ⟨h1, by unfold ownBack; simp only [h2, q]; exact wa, h3⟩
end
section
variable {X : Cx} {E : WX} {k : Nat} {x : Str} {fn : Fn} {p pos : Pos} {e : Expr} {es : List Expr} {As : List Arg}
theorem call_red {K : PySem.W.Frag} {mg : Str → Option Value} {σ : St} {H : Hp} {Q : VK} {E : WX} {As : List Arg} (h : rX K mg E (TRel K mg) (eCall fn As) σ H Q) : tCallG (spF K mg fn) (WE E) (rX K mg E (ARel K mg As) (aL As)) σ H Q := by
  obtain ⟨P, W, ρ, w, g⟩ := h
  unfold eCall at g
  by_cases n : nodupB (iosOf As) = true
  · rw [if_pos n] at g
    refine ⟨P, W, ρ, w, (Go.bind g).mono fun vs H1 ⟨P1, W1, a, s1, ⟨w1, k1⟩, g1⟩ => ?_⟩
    obtain ⟨ts, m, g2⟩ := Go.of g1
    refine ⟨P1, ownIn As W1, ts, w1.callee n k1 m, (args_env k1 m).1, ?_⟩
    cases hf : fn ts with
    | ok t os =>
      rw [hf] at g2
      exact fun v P' W' H' st w' rt => by
        obtain ⟨wb, sb, rb⟩ := w1.back n k1 st w'
        exact g2 v P' _ H' sb ⟨wb, rb t v rt⟩
    | exc x os =>
      rw [hf] at g2
      exact fun c od P' W' H' st w' xr => by
        obtain ⟨wb, sb, rb⟩ := w1.back n k1 st w'
        exact g2 c od P' _ H' sb wb xr
    | fail => rw [hf] at g2; exact g2.elim
  · rw [if_neg n] at g; exact g.elim
theorem et_call (C : Cal X.prog X.w X.K X.mg X.base k x fn) (hr : RoomG k X.A) (hg : Gl X x) (tk : Takes X E) (ha : EAA X E (e :: es) As)
    (hdb : (x == ("__debug__" : Str)) = false := by decide) (he : starEach (e :: es) X.env = (false, eval e X.env) :: starEach es X.env := by rfl) (hpl : (backTo pos (starEach es X.env)).any (·.1) = false := by rfl) : ET X E (.Call (.Name x p) (e :: es) [] pos) (eCall fn As) := by
  obtain ⟨f, fd, ps, F, hm, hk, hb⟩ := C.ex
  exact PE.imp (pe_callG F hr hg hm hk hb (fun σ => passAt tk σ) ha hdb he hpl) fun σ H Q h => call_red h
theorem et_call0 (C : Cal X.prog X.w X.K X.mg X.base k x fn) (hr : RoomG k X.A) (hg : Gl X x) (tk : Takes X E) (hdb : (x == ("__debug__" : Str)) = false := by decide) : ET X E (.Call (.Name x p) [] [] pos) (eCall fn []) := by
  obtain ⟨f, fd, ps, F, hm, hk, hb⟩ := C.ex
  refine PE.imp (t := fun σ H Q => spF X.K X.mg fn [] H Q (WE E σ)) ⟨fun pins s σ H Q I h => ?_⟩ fun σ H Q h => ?_
  · refine wpAny_Call_Name_kw (ld_glob I hg hm ?_ hdb)
    exact PySem.W.callWith_K0 I.kIn hk (runG (us := []) (vs := []) (E := WE E) F hr hb (passAt tk σ) I .nil h)
  · have := call_red (As := []) h
    obtain ⟨P, W, ρ, w, g⟩ := h
    have g : Go X.K X.mg E (TRel X.K X.mg) (Res.of (mkT [] [] ρ) >>= fun ts => match fn ts with
      | .ok t os => Res.ok (t, putB [] os ρ)
      | .exc x os => .exc x (putB [] os ρ)
      | .fail => .fail) P W H σ Q := g
    obtain ⟨ts, m, g2⟩ := Go.of (g := fun ts => match fn ts with
      | .ok t os => Res.ok (t, putB [] os ρ)
      | .exc x os => .exc x (putB [] os ρ)
      | .fail => .fail) (o := mkT [] [] ρ) g
    refine ⟨P, ownIn [] W, ts, w.callee (As := []) (os := []) rfl ⟨rfl, rfl⟩ m, (args_env (K := X.K) (P := P) (σ := σ) (As := []) (os := []) (vs := []) ⟨rfl, rfl⟩ m).1, ?_⟩
    cases hf : fn ts with
    | ok t os =>
      rw [hf] at g2
      exact fun v P' W' H' st w' rt => by
        obtain ⟨wb, sb, rb⟩ := w.back (As := []) (os0 := []) rfl ⟨rfl, rfl⟩ st w'
        exact g2 v P' _ H' sb ⟨wb, rb t v rt⟩
    | exc x os =>
      rw [hf] at g2
      exact fun c od P' W' H' st w' xr => by
        obtain ⟨wb, sb, rb⟩ := w.back (As := []) (os0 := []) rfl ⟨rfl, rfl⟩ st w'
        exact g2 c od P' _ H' sb wb xr
    | fail => rw [hf] at g2; exact g2.elim
end
/-- the law's own promise -/
def spLaw (K : PySem.W.Frag) : Sp := fun vs H Q _ => ∃ (a : Addr) (ns : List Int), vs = [.ref a] ∧ SqL K H a (ns.map V.int) ∧ ns.length ≤ 63 ∧ ∀ H', Q (.bl true) H'
theorem law_ok {P : Program} {w : World} {K : PySem.W.Frag} {mg : Str → Option Value} {base : Heap} {CX : CXT} {k : Nat} {f : Addr} {fd : FuncData} {ps : List Str} {fn : Fn} (F : FnG P w K mg base CX k f fd ps (spF K mg fn))
    (h : ∀ ns : List Int, ns.length ≤ 63 → ∃ os, fn [.sh (.rol (ns.map .int))] = .ok (.sh (.bl true)) os) : FnG P w K mg base CX k f fd ps (spLaw K) := F.imp fun vs H Q E ⟨a, ns, e, hs, hl, q⟩ => by
  subst e
  obtain ⟨os, ho⟩ := h ns hl
  have sm : Same (fun x => if x = a then H a else none) H := fun x o e => by
    by_cases hx : x = a
    · subst hx; dsimp only at e; rw [if_pos rfl] at e; exact e
    · dsimp only at e; rw [if_neg hx] at e; cases e
  have hq : SqL K (fun x => if x = a then H a else none) a (ns.map V.int) := by
    rcases hs with hs | hs
    · left
      unfold Rd at hs ⊢
      simpa using hs
    · right; exact hs
  refine ⟨fun x => if x = a then H a else none, fun _ => none, [.sh (.rol (ns.map .int))], ⟨sm, fun x r e => (by cases e), fun i t e => ?_, by simp⟩, rfl, ?_⟩
  · cases i with
    | zero =>
      simp at e
      subst e
      exact ⟨.ref a, rfl, a, ns.map V.int, rfl, hq, DenL.of_ints ns⟩
    | succ i => simp at e
  · rw [ho]
    intro v P' W' H' st w' rt
    have rt : Den K P' (.bl true) v := rt
    unfold Den at rt
    rw [rt]
    exact q H'
end Od
/-! list(zip(a, b)) of two lists -/
namespace PySem.W
open PySem PySem.Calls PyProof.Rows PyProof.V PySem.Spec
/-- the zip object after i turns; S the list that is made -/
structure ZlSt (h : Heap) (z TI TO i1 i2 l1 l2 S : Addr) (xs ys : Array Value) (i : Nat) : Prop where
  ti : IsPair h TI (.ref i1) (.ref i2)
  it1 : h.IsListIter i1 l1 i
  it2 : h.IsListIter i2 l2 i
  ls1 : h.IsList l1 xs
  ls2 : h.IsList l2 ys
  z : (i = 0 ∧ IsZip h z TI TO .none ∧ IsPair h TO .none .none) ∨ ∃ T f oT, IsZipHeld h z TI TO T f ∧ h.get? T = some oT ∧ S < T
/-- all parts lie below S -/
structure ZlLow (z TI TO i1 i2 l1 l2 S : Addr) : Prop where
  z : z < S
  TI : TI < S
  TO : TO < S
  i1 : i1 < S
  i2 : i2 < S
  l1 : l1 < S
  l2 : l2 < S
section
variable {h h' : Heap} {z TI TO i1 i2 l1 l2 S : Addr} {xs ys : Array Value} {i : Nat}
theorem ZlSt.keep (st : ZlSt h z TI TO i1 i2 l1 l2 S xs ys i) (L : ZlLow z TI TO i1 i2 l1 l2 S) (k : ∀ b o, b ≠ S → h.get? b = some o → h'.get? b = some o) : ZlSt h' z TI TO i1 i2 l1 l2 S xs ys i where
  ti := k _ _ (Nat.ne_of_lt L.TI) st.ti
  it1 := st.it1.at fun o e => k _ o (Nat.ne_of_lt L.i1) e
  it2 := st.it2.at fun o e => k _ o (Nat.ne_of_lt L.i2) e
  ls1 := st.ls1.at fun o e => k _ o (Nat.ne_of_lt L.l1) e
  ls2 := st.ls2.at fun o e => k _ o (Nat.ne_of_lt L.l2) e
  z := by
    rcases st.z with ⟨e, a, b⟩ | ⟨T, f, oT, a, b, c⟩
    · exact .inl ⟨e, k _ _ (Nat.ne_of_lt L.z) a, k _ _ (Nat.ne_of_lt L.TO) b⟩
    · exact .inr ⟨T, f, oT, k _ _ (Nat.ne_of_lt L.z) a, k _ _ (Nat.ne_of_gt c) b, c⟩
end
section
variable {prog : Program} {w : World} {A : Around} {E : Value → Shared → Prop} {s : Shared} {z TI TO i1 i2 l1 l2 S : Addr} {xs ys : Array Value} {i : Nat}
end
section
variable {prog : Program} {w : World} {A : Around} {s : Shared} {R : Result → Shared → Prop} {z TI TO i1 i2 l1 l2 S : Addr} {xs ys : Array Value}
end
section
variable {prog : Program} {w : World} {A : Around} {E : Value → Shared → Prop} {s : Shared} {z TI TO i1 i2 l1 l2 : Addr} {xs ys : Array Value}
end
end PySem.W
namespace LiZ
open PySem PySem.Spec PyProof.Rows L2
section
variable {X : Cx}
end
end LiZ
namespace Od
open PySem PySem.Spec L2
open PyProof.Rows hiding St
/-! ### built-in functions -/
section
variable {K : PySem.W.Frag} {P H : Hp}
theorem vl1 {d : D} {vs : List V} (h : ViewL K P H [d] vs) : ∃ v, vs = [v] ∧ View K P H d v := by
  obtain ⟨v, r, rfl, h1, h2⟩ := h
  cases h2
  exact ⟨v, rfl, h1⟩
theorem vl2 {d e : D} {vs : List V} (h : ViewL K P H [d, e] vs) : ∃ v w, vs = [v, w] ∧ View K P H d v ∧ View K P H e w := by
  obtain ⟨v, r, rfl, h1, w, r', rfl, h2, h3⟩ := h
  cases h3
  exact ⟨v, w, rfl, h1, h2⟩
end
def allInts : List D → Option (List Int)
  | [] => some []
  | .int i :: ds => (allInts ds).map (i :: ·)
  | _ => none
def allBls : List D → Option (List Bool)
  | [] => some []
  | .bl i :: ds => (allBls ds).map (i :: ·)
  | _ => none
def allStrs : List D → Option (List Tx)
  | [] => some []
  | .str i :: ds => (allStrs ds).map (i :: ·)
  | _ => none
theorem allInts_of : ∀ {ds : List D} {ns : List Int}, allInts ds = some ns → ds = ns.map D.int
  | [], ns, h => by cases h; rfl
  | d :: ds, ns, h => by
    cases d <;> simp only [allInts, Option.map_eq_some_iff] at h <;> try (cases h; done)
    obtain ⟨ms, h1, h2⟩ := h
    subst h2
    rw [allInts_of h1]; rfl
theorem allBls_of : ∀ {ds : List D} {ns : List Bool}, allBls ds = some ns → ds = ns.map D.bl
  | [], ns, h => by cases h; rfl
  | d :: ds, ns, h => by
    cases d <;> simp only [allBls, Option.map_eq_some_iff] at h <;> try (cases h; done)
    obtain ⟨ms, h1, h2⟩ := h
    subst h2
    rw [allBls_of h1]; rfl
theorem allStrs_of : ∀ {ds : List D} {ns : List Tx}, allStrs ds = some ns → ds = ns.map D.str
  | [], ns, h => by cases h; rfl
  | d :: ds, ns, h => by
    cases d <;> simp only [allStrs, Option.map_eq_some_iff] at h <;> try (cases h; done)
    obtain ⟨ms, h1, h2⟩ := h
    subst h2
    rw [allStrs_of h1]; rfl
theorem allStrs_map : ∀ ns : List Tx, allStrs (ns.map D.str) = some ns
  | [] => rfl
  | n :: ns => by simp [allStrs, allStrs_map ns]
theorem DenL.bls {K : PySem.W.Frag} {P : Hp} : ∀ {ns : List Bool} {vs : List V}, DenL K P (ns.map D.bl) vs → vs = ns.map V.bl
  | [], vs, h => by simpa [DenL] using h
  | n :: ns, vs, h => by
    simp only [List.map_cons] at h
    unfold DenL at h
    obtain ⟨v, r, rfl, h1, h2⟩ := h
    unfold Den at h1
    rw [h1, h2.bls]; rfl
def fLen : List D → Option D
  | [.str s] => if s.length ≤ 1000000 then some (.int s.length) else none
  | [.lst ds] => some (.int ds.length)
  | [.rol ds] => some (.int ds.length)
  | [.tup ds] => some (.int ds.length)
  | [.dct ks _] => some (.int ks.length)
  | _ => none
def rLenA (K : PySem.W.Frag) : List V → Hp → VK → Prop := fun xs H Q => (∃ x n, xs = [x] ∧ LenV K x H n ∧ Q (.int n) H) ∨ ∃ a kvs, xs = [V.ref a] ∧ H a = some (.dK kvs) ∧ Q (.int kvs.length) H
theorem cr_lenA {X : Cx} : CallR X (.builtin "len") (rLenA X.K) := CallR.or call_len call_lenD
theorem f_len {K : PySem.W.Frag} : CbV K (rLenA K) fLen := by
  intro P H vs ds res Q s v hf q
  unfold fLen at hf
  split at hf
  · split at hf
    · cases hf
      rename_i hl
      obtain ⟨v, rfl, h⟩ := vl1 v
      rw [vstr h]
      exact .inl ⟨_, _, rfl, ⟨by rw [sT_len]; exact szOf hl, rfl⟩, by rw [sT_len]; exact q _ P H (Al.refl s) dint⟩
    · cases hf
  · cases hf
    obtain ⟨v, rfl, h⟩ := vl1 v
    obtain ⟨a, vs, rfl, e, l⟩ := vlst h
    exact .inl ⟨_, _, rfl, .inl ⟨vs, SqL.of e, rfl⟩, by rw [l.len]; exact q _ P H (Al.refl s) dint⟩
  · cases hf
    obtain ⟨v, rfl, h⟩ := vl1 v
    obtain ⟨a, vs, rfl, e, l⟩ := vrol s h
    exact .inl ⟨_, _, rfl, .inl ⟨vs, e, rfl⟩, by rw [l.len]; exact q _ P H (Al.refl s) dint⟩
  · cases hf
    obtain ⟨v, rfl, h⟩ := vl1 v
    obtain ⟨a, vs, rfl, e, l⟩ := vtup s h
    exact .inl ⟨_, _, rfl, .inr ⟨vs, e, rfl⟩, by rw [l.len]; exact q _ P H (Al.refl s) dint⟩
  · cases hf
    obtain ⟨v, rfl, h⟩ := vl1 v
    obtain ⟨a, ws, rfl, e, k, l⟩ := h
    refine .inr ⟨a, ws, rfl, e, ?_⟩
    have : ws.length = (ws.map Prod.fst).length := by simp
    rw [this, k, List.length_map]
    exact q _ P H (Al.refl s) dint
  · cases hf
/-- max, min: of two ints, of a list of ints -/
def maxI : List Int → Option Int
  | [] => none
  | x :: xs => some (xs.foldl max x)
def minI : List Int → Option Int
  | [] => none
  | x :: xs => some (xs.foldl min x)
theorem foldmax : ∀ (xs : List Int) (x : Int), (xs.foldl max x) ∈ x :: xs ∧ ∀ y ∈ x :: xs, y ≤ xs.foldl max x
  | [], x => by simp
  | y :: ys, x => by
    obtain ⟨h1, h2⟩ := foldmax ys (max x y)
    simp only [List.foldl_cons]
    refine ⟨?_, fun z hz => ?_⟩
    · rcases List.mem_cons.mp h1 with h | h
      · rw [h]
        rcases Int.le_total x y with q | q
        · rw [Int.max_eq_right q]; simp
        · rw [Int.max_eq_left q]; simp
      · exact List.mem_cons_of_mem _ (List.mem_cons_of_mem _ h)
    · have hm := h2 (max x y) List.mem_cons_self
      rcases List.mem_cons.mp hz with rfl | hz
      · omega
      · rcases List.mem_cons.mp hz with rfl | hz
        · omega
        · exact h2 z (List.mem_cons_of_mem _ hz)
theorem foldmin : ∀ (xs : List Int) (x : Int), (xs.foldl min x) ∈ x :: xs ∧ ∀ y ∈ x :: xs, xs.foldl min x ≤ y
  | [], x => by simp
  | y :: ys, x => by
    obtain ⟨h1, h2⟩ := foldmin ys (min x y)
    simp only [List.foldl_cons]
    refine ⟨?_, fun z hz => ?_⟩
    · rcases List.mem_cons.mp h1 with h | h
      · rw [h]
        rcases Int.le_total x y with q | q
        · rw [Int.min_eq_left q]; simp
        · rw [Int.min_eq_right q]; simp
      · exact List.mem_cons_of_mem _ (List.mem_cons_of_mem _ h)
    · have hm := h2 (min x y) List.mem_cons_self
      rcases List.mem_cons.mp hz with rfl | hz
      · omega
      · rcases List.mem_cons.mp hz with rfl | hz
        · omega
        · exact h2 z (List.mem_cons_of_mem _ hz)
theorem maxI_eq {xs : List Int} {m r : Int} (h : m ∈ xs) (h' : ∀ y ∈ xs, y ≤ m) (e : maxI xs = some r) : m = r := by
  cases xs with
  | nil => cases e
  | cons x xs =>
    cases e
    obtain ⟨h1, h2⟩ := foldmax xs x
    have := h2 m h
    have := h' _ h1
    omega
theorem minI_eq {xs : List Int} {m r : Int} (h : m ∈ xs) (h' : ∀ y ∈ xs, m ≤ y) (e : minI xs = some r) : m = r := by
  cases xs with
  | nil => cases e
  | cons x xs =>
    cases e
    obtain ⟨h1, h2⟩ := foldmin xs x
    have := h2 m h
    have := h' _ h1
    omega
def fMax : List D → Option D
  | [.int i, .int j] => some (.int (max i j))
  | [.lst ds] => (allInts ds).bind fun ns => (maxI ns).map D.int
  | _ => none
def fMin : List D → Option D
  | [.int i, .int j] => some (.int (min i j))
  | [.lst ds] => (allInts ds).bind fun ns => (minI ns).map D.int
  | _ => none
def rMaxA (K : PySem.W.Frag) : List V → Hp → VK → Prop := fun xs H Q => (∃ i j, xs = [.int i, .int j] ∧ Q (.int (if j > i then j else i)) H) ∨ rMax K xs H Q
def rMinA (K : PySem.W.Frag) : List V → Hp → VK → Prop := fun xs H Q => (∃ i j, xs = [.int i, .int j] ∧ Q (.int (if j < i then j else i)) H) ∨ rMin K xs H Q
theorem cr_maxA {X : Cx} (hc : X.calm = true) : CallR X (.builtin "max") (rMaxA X.K) := CallR.or (call_max2 hc) (cr_max hc)
theorem cr_minA {X : Cx} (hc : X.calm = true) : CallR X (.builtin "min") (rMinA X.K) := CallR.or (call_min2 hc) (cr_min hc)
theorem f_max {K : PySem.W.Frag} : CbV K (rMaxA K) fMax := by
  intro P H vs ds res Q s v hf q
  unfold fMax at hf
  split at hf
  · cases hf
    rename_i i j
    obtain ⟨v, w, rfl, h1, h2⟩ := vl2 v
    refine .inl ⟨i, j, by rw [vint h1, vint h2], ?_⟩
    have : (if j > i then j else i) = max i j := by split <;> omega
    rw [this]
    exact q _ P H (Al.refl s) dint
  · rename_i es
    obtain ⟨v, rfl, h⟩ := vl1 v
    obtain ⟨a, vs, rfl, e, l⟩ := vlst h
    obtain ⟨ns, h1, h2⟩ := Option.bind_eq_some_iff.mp hf
    obtain ⟨m, h3, rfl⟩ := Option.map_eq_some_iff.mp h2
    have := allInts_of h1
    subst this
    rw [l.ints] at e
    refine .inr ⟨a, ns, rfl, SqL.of e, ?_, fun m' h4 h5 => ?_⟩
    · cases ns with
      | nil => cases h3
      | cons => simp
    · rw [maxI_eq h4 h5 h3]; exact q _ P H (Al.refl s) dint
  · cases hf
theorem f_min {K : PySem.W.Frag} : CbV K (rMinA K) fMin := by
  intro P H vs ds res Q s v hf q
  unfold fMin at hf
  split at hf
  · cases hf
    rename_i i j
    obtain ⟨v, w, rfl, h1, h2⟩ := vl2 v
    refine .inl ⟨i, j, by rw [vint h1, vint h2], ?_⟩
    have : (if j < i then j else i) = min i j := by split <;> omega
    rw [this]
    exact q _ P H (Al.refl s) dint
  · rename_i es
    obtain ⟨v, rfl, h⟩ := vl1 v
    obtain ⟨a, vs, rfl, e, l⟩ := vlst h
    obtain ⟨ns, h1, h2⟩ := Option.bind_eq_some_iff.mp hf
    obtain ⟨m, h3, rfl⟩ := Option.map_eq_some_iff.mp h2
    have := allInts_of h1
    subst this
    rw [l.ints] at e
    refine .inr ⟨a, ns, rfl, SqL.of e, ?_, fun m' h4 h5 => ?_⟩
    · cases ns with
      | nil => cases h3
      | cons => simp
    · rw [minI_eq h4 h5 h3]; exact q _ P H (Al.refl s) dint
  · cases hf
def fAll : List D → Option D
  | [.lst ds] => (allBls ds).map fun ns => .bl (ns.all id)
  | _ => none
def fAny : List D → Option D
  | [.lst ds] => (allBls ds).map fun ns => .bl (ns.any id)
  | _ => none
theorem f_all {K : PySem.W.Frag} : CbV K (rAll K) fAll := by
  intro P H vs ds res Q s v hf q
  unfold fAll at hf
  split at hf
  · rename_i es
    obtain ⟨v, rfl, h⟩ := vl1 v
    obtain ⟨a, vs, rfl, e, l⟩ := vlst h
    obtain ⟨ns, h1, rfl⟩ := Option.map_eq_some_iff.mp hf
    have := allBls_of h1
    subst this
    rw [l.bls] at e
    exact ⟨a, ns, rfl, SqL.of e, q _ P H (Al.refl s) dbl⟩
  · cases hf
theorem f_any {K : PySem.W.Frag} : CbV K (rAny K) fAny := by
  intro P H vs ds res Q s v hf q
  unfold fAny at hf
  split at hf
  · rename_i es
    obtain ⟨v, rfl, h⟩ := vl1 v
    obtain ⟨a, vs, rfl, e, l⟩ := vlst h
    obtain ⟨ns, h1, rfl⟩ := Option.map_eq_some_iff.mp hf
    have := allBls_of h1
    subst this
    rw [l.bls] at e
    exact ⟨a, ns, rfl, SqL.of e, q _ P H (Al.refl s) dbl⟩
  · cases hf
def fDivmod : List D → Option D
  | [.int i, .int j] => if 0 < j ∧ j < 1073741824 then some (.tup [.int (i / j), .int (i % j)]) else none
  | _ => none
theorem cdiv_of {i j : Int} (h : 0 < j ∧ j < 1073741824) : CDiv i j := ⟨h.1, by omega⟩
theorem f_divmod {K : PySem.W.Frag} : CbV K (fun xs H Q => ∃ i j, xs = [.int i, .int j] ∧ CDiv i j ∧ ∀ p, H p = none → Q (.ref p) (upd H p (.tup [.int (i / j), .int (i % j)]))) fDivmod := by
  intro P H vs ds res Q s v hf q
  unfold fDivmod at hf
  split at hf
  · split at hf
    · cases hf
      rename_i hj
      obtain ⟨v, w, rfl, h1, h2⟩ := vl2 v
      refine ⟨_, _, by rw [vint h1, vint h2], cdiv_of hj, fun p n => ?_⟩
      obtain ⟨al, dn⟩ := dnewT s n (DenL.cons (K := K) (P := P) dint (DenL.cons dint DenL.nil))
      exact q _ _ _ al dn
    · cases hf
  · cases hf
/-- list(x): a copy -/
def fList : List D → Option (List D)
  | [.lst ds] => some ds
  | [.rol ds] => some ds
  | [.tup ds] => some ds
  | _ => none
theorem f_list {K : PySem.W.Frag} : CbL K (fun xs H Q => ∃ p ys, xs = [.ref p] ∧ (SqL K H p ys ∨ SqT K H p ys) ∧ ∀ l, H l = none → Q (.ref l) (upd H l (.lst ys))) fList := by
  intro P H vs ds res Q s v hf q
  unfold fList at hf
  split at hf
  · cases hf
    obtain ⟨v, rfl, h⟩ := vl1 v
    obtain ⟨a, vs, rfl, e, l⟩ := vlst h
    exact ⟨a, vs, rfl, .inl (SqL.of e), fun p n => q p vs n l⟩
  · cases hf
    obtain ⟨v, rfl, h⟩ := vl1 v
    obtain ⟨a, vs, rfl, e, l⟩ := vrol s h
    exact ⟨a, vs, rfl, .inl e, fun p n => q p vs n l⟩
  · cases hf
    obtain ⟨v, rfl, h⟩ := vl1 v
    obtain ⟨a, vs, rfl, e, l⟩ := vtup s h
    exact ⟨a, vs, rfl, .inr e, fun p n => q p vs n l⟩
  · cases hf
def fTuple : List D → Option D
  | [.lst ds] => some (.tup ds)
  | [.rol ds] => some (.tup ds)
  | [.tup ds] => some (.tup ds)
  | _ => none
theorem f_tuple {K : PySem.W.Frag} : CbV K (fun xs H Q => ∃ p ys, xs = [.ref p] ∧ ((SqL K H p ys ∧ ∀ l, H l = none → Q (.ref l) (upd H l (.tup ys))) ∨ (SqT K H p ys ∧ Q (.ref p) H))) fTuple := by
  intro P H vs ds res Q s v hf q
  unfold fTuple at hf
  split at hf
  · cases hf
    obtain ⟨v, rfl, h⟩ := vl1 v
    obtain ⟨a, vs, rfl, e, l⟩ := vlst h
    exact ⟨a, vs, rfl, .inl ⟨SqL.of e, fun p n => q _ _ _ (dnewT s n l).1 (dnewT s n l).2⟩⟩
  · cases hf
    obtain ⟨v, rfl, h⟩ := vl1 v
    obtain ⟨a, vs, rfl, e, l⟩ := vrol s h
    exact ⟨a, vs, rfl, .inl ⟨e, fun p n => q _ _ _ (dnewT s n l).1 (dnewT s n l).2⟩⟩
  · cases hf
    obtain ⟨v, rfl, h⟩ := vl1 v
    have h' := h
    obtain ⟨a, vs, rfl, e, l⟩ := vtup s h
    exact ⟨a, vs, rfl, .inr ⟨e, q _ P H (Al.refl s) (vtupD h')⟩⟩
  · cases hf
/-! ### isinstance -/
inductive Kd where | int | bool | str | list | tuple | dict
def Kd.nm : Kd → String
  | .int => "int" | .bool => "bool" | .str => "str" | .list => "list" | .tuple => "tuple" | .dict => "dict"
def kdOf : Kd → D → Option Bool
  | .int, .int _ => some true
  | .int, .bl _ => some true
  | .bool, .bl _ => some true
  | .str, .str _ => some true
  | .list, .lst _ => some true
  | .tuple, .tup _ => some true
  | .dict, .dct _ _ => some true
  | _, .rol _ => none
  | _, .exn _ _ _ => none
  | _, .obj _ _ _ => none
  | _, .fn _ => none
  | _, _ => some false
def kdAny : List Kd → D → Option Bool
  | [], _ => some false
  | k :: ks, d => (kdOf k d).bind fun b => if b then some true else kdAny ks d
def tyN : D → Option String
  | .non => some "NoneType"
  | .bl _ => some "bool"
  | .int _ => some "int"
  | .str _ => some "str"
  | .tup _ => some "tuple"
  | .lst _ => some "list"
  | .dct _ _ => some "dict"
  | _ => none
theorem kit_tab : ∀ (k : Kd) (n : String), n ∈ ["NoneType", "bool", "int", "str", "tuple", "list", "dict"] → kitB n k.nm = some (decide (n = k.nm) || (decide (n = "bool") && decide (k.nm = "int"))) := by
  intro k n hn
  simp only [List.mem_cons, List.not_mem_nil, or_false] at hn
  rcases hn with rfl | rfl | rfl | rfl | rfl | rfl | rfl <;> cases k <;> decide +kernel
theorem kdOf_kit {k : Kd} {d : D} {b : Bool} {n : String} (h : kdOf k d = some b) (hn : tyN d = some n) : kitB n k.nm = some b := by
  cases d <;> simp only [tyN, Option.some.injEq] at hn <;> try (cases hn; done)
  all_goals
    subst hn
    rw [kit_tab k _ (by simp)]
    cases k <;> cases h <;> rfl
section
variable {K : PySem.W.Frag} {P H : Hp}
theorem tyx_of (s : Same P H) {d : D} {v : V} (h : View K P H d v) {n : String} (hn : tyN d = some n) : TyX K H v (.type n) := by
  cases d <;> simp only [tyN, Option.some.injEq] at hn <;> try (cases hn; done)
  all_goals subst hn
  · rw [vnon h]; exact .base .non
  · rw [vbl h]; exact .base (.bl _)
  · rw [vint h]; exact .base (.int _)
  · rw [vstr h]; exact .base (.str _)
  · obtain ⟨a, vs, rfl, q, l⟩ := vtup s h
    rcases q with (q | ⟨o, q⟩) | ⟨o, its, n, q, qc, _⟩
    · exact .base (.tup q)
    · exact .fTuple q
    · exact .kTuple q qc
  · obtain ⟨a, vs, rfl, q, l⟩ := vlst h
    exact .base (.lst q)
  · obtain ⟨a, ws, rfl, q, _⟩ := h
    exact .base (.dK q)
end
def eIsi (ks : List Kd) (A : HM) : EM := fun ρ => A ρ >>= fun a => Res.of ((getH a.1 a.2).bind (kdAny ks)) >>= fun r => .ok (.bl r, a.2)
theorem kdAny_kit {K : PySem.W.Frag} : ∀ {ks : List Kd} {d : D} {b : Bool} {n : String}, kdAny ks d = some b → tyN d = some n → PySem.W.kitAny K (.type n) (ks.map fun k => Value.type k.nm) = some b
  | [], d, b, n, h, hn => by cases h; exact kitAny_nil
  | k :: ks, d, b, n, h, hn => by
    unfold kdAny at h
    obtain ⟨c, h1, h2⟩ := Option.bind_eq_some_iff.mp h
    refine kitAny_cons (kit_ty (kdOf_kit h1 hn)) (fun e => ?_) (fun e => ?_)
    · subst e
      exact kdAny_kit (by simpa using h2) hn
    · subst e
      simpa using h2.symm
theorem kdAny_ty {ks : List Kd} {d : D} {b : Bool} (h : kdAny ks d = some b) (hk : ks ≠ []) : ∃ n, tyN d = some n := by
  cases ks with
  | nil => exact absurd rfl hk
  | cons k ks =>
    unfold kdAny at h
    obtain ⟨c, h1, h2⟩ := Option.bind_eq_some_iff.mp h
    cases d <;> first | exact ⟨_, rfl⟩ | (cases k <;> cases h1)
section
variable {X : Cx} {E : WX} {e : Expr} {A : HM} {p p2 pos : Pos}
theorem pe_kd (k : Kd) (hg : Gl X k.nm) (hm : X.mg k.nm = none) : PE X (.Name k.nm p2) (tC (.ty k.nm)) :=
  pe_bltn (u := .type k.nm) hg hm (by cases k <;> decide +kernel) rfl (by cases k <;> decide) (by cases k <;> decide)
/-- isinstance(e, T) -/
theorem ev_isi (k : Kd) (hg : Gl X "isinstance") (hm : X.mg "isinstance" = none) (hgk : Gl X k.nm) (hmk : X.mg k.nm = none) (ha : EH X E e A)
    (he : starEach [e, .Name k.nm p2] X.env = (false, eval e X.env) :: starEach [.Name k.nm p2] X.env := by rfl) (he2 : starEach [.Name k.nm p2] X.env = (false, eval (.Name k.nm p2) X.env) :: starEach [] X.env := by rfl) (hpl : (backTo pos (starEach [.Name k.nm p2] X.env)).any (·.1) = false := by rfl) :
    EV X E (.Call (.Name "isinstance" p) [e, .Name k.nm p2] [] pos) (eIsi [k] A) :=
  PE.imp (pe_callB call_isi hg hm (by decide +kernel) (pa_cons ha (pa_cons (pe_kd k hgk hmk) pa_nil he2) he) (by decide) (by decide) he hpl) fun σ H Q ⟨P, W, ρ, w, g⟩ =>
    ⟨P, W, ρ, w, (Go.bind g).mono fun v H1 ⟨P1, W1, a, s1, ⟨w1, k1⟩, g1⟩ => by
      obtain ⟨res, e, g2⟩ := Go.of g1
      obtain ⟨d, hd, hf⟩ := Option.bind_eq_some_iff.mp e
      obtain ⟨n, hn⟩ := kdAny_ty hf (by simp)
      have vw := Hok.view w1 k1 hd
      have h1 : kdOf k d = some res := by
        unfold kdAny kdAny at hf
        obtain ⟨c, h1, h2⟩ := Option.bind_eq_some_iff.mp hf
        cases c <;> simp at h2 <;> subst h2 <;> exact h1
      exact ⟨v, .ty k.nm, .type n, .type k.nm, res, rfl, .ty _, tyx_of w1.same vw hn, kit_ty (kdOf_kit h1 hn), g2 (.bl res) P1 W1 H1 (Step.refl P1 W1 H1) ⟨w1, dbl⟩⟩⟩
/-- isinstance(e, (T1, T2)) -/
theorem ev_isi2 (k k' : Kd) {kk : Nat} {p3 p4 : Pos} (hg : Gl X "isinstance") (hm : X.mg "isinstance" = none) (hgk : Gl X k.nm) (hmk : X.mg k.nm = none) (hgk' : Gl X k'.nm) (hmk' : X.mg k'.nm = none) (ha : EH X E e A)
    (he : starEach [e, .Tuple [.Name k.nm p2, .Name k'.nm p3] kk p4] X.env = (false, eval e X.env) :: starEach [.Tuple [.Name k.nm p2, .Name k'.nm p3] kk p4] X.env := by rfl)
    (he2 : starEach [.Tuple [.Name k.nm p2, .Name k'.nm p3] kk p4] X.env = (false, eval (.Tuple [.Name k.nm p2, .Name k'.nm p3] kk p4) X.env) :: starEach [] X.env := by rfl)
    (he3 : starEach [.Name k.nm p2, .Name k'.nm p3] X.env = (false, eval (.Name k.nm p2) X.env) :: starEach [.Name k'.nm p3] X.env := by rfl) (he4 : starEach [.Name k'.nm p3] X.env = (false, eval (.Name k'.nm p3) X.env) :: starEach [] X.env := by rfl)
    (hpl : (backTo pos (starEach [.Tuple [.Name k.nm p2, .Name k'.nm p3] kk p4] X.env)).any (·.1) = false := by rfl) :
    EV X E (.Call (.Name "isinstance" p) [e, .Tuple [.Name k.nm p2, .Name k'.nm p3] kk p4] [] pos) (eIsi [k, k'] A) :=
  PE.imp (pe_callB call_isiT hg hm (by decide +kernel) (pa_cons ha (pa_cons (pe_tup (pa_cons (pe_kd k hgk hmk) (pa_cons (pe_kd k' hgk' hmk') pa_nil he4) he3)) pa_nil he2) he) (by decide) (by decide) he hpl) fun σ H Q ⟨P, W, ρ, w, g⟩ =>
    ⟨P, W, ρ, w, (Go.bind g).mono fun v H1 ⟨P1, W1, a, s1, ⟨w1, k1⟩, g1⟩ => by
      obtain ⟨res, e, g2⟩ := Go.of g1
      obtain ⟨d, hd, hf⟩ := Option.bind_eq_some_iff.mp e
      obtain ⟨n, hn⟩ := kdAny_ty hf (by simp)
      have vw := Hok.view w1 k1 hd
      refine ⟨by show 2 ≤ sizeLine; decide, fun tp ntp => ?_⟩
      have al := Al.newH (P := P1) (o := .tup [.ty k.nm, .ty k'.nm]) w1.same ntp
      refine ⟨v, tp, [.ty k.nm, .ty k'.nm], .type n, [.type k.nm, .type k'.nm], res, rfl, upd_same, .cons (.ty _) (.cons (.ty _) .nil), ?_, kdAny_kit hf hn, g2 (.bl res) P1 W1 _ (al.step W1) ⟨w1.al al, dbl⟩⟩
      refine tyx_of al.2.2.1 ?_ hn
      · cases d with
        | lst ds => obtain ⟨a, vs, e, q, l⟩ := vw; exact ⟨a, vs, e, al.1 a _ q, l⟩
        | dct ks ds => obtain ⟨a, vs, e, q, l⟩ := vw; exact ⟨a, vs, e, al.1 a _ q, l⟩
        | _ => exact vw⟩
end
end Od
namespace Od
open PySem PySem.Spec L2
open PyProof.Rows hiding St
/-! ### list(zip(a, b)) -/
section
variable {K : PySem.W.Frag}
end
section
variable {X : Cx} {E : WX} {e e2 : Expr} {As : List HM} {p p2 zpos pos : Pos}
end
/-! ### is, of truths -/
/-! ### methods of texts -/
def mSw : D → List D → Option D
  | .str a, [.str b] => some (.bl (b.isPrefixOf a))
  | _, _ => none
def mEw : D → List D → Option D
  | .str a, [.str b] => some (.bl (b.isSuffixOf a))
  | _, _ => none
def joinT (sep : Tx) : List Tx → Tx
  | [] => []
  | [x] => x
  | x :: y :: r => x ++ sep ++ joinT sep (y :: r)
def mJoin : D → List D → Option D
  | .str a, [.lst ds] => (allStrs ds).bind fun ys => if (ys.map List.length).sum + ys.length * a.length ≤ 1000000 then some (.str (joinT a ys)) else none
  | _, _ => none
theorem sw_eq (a b : Tx) : Txt.startswith (sT a) (sT b) = b.isPrefixOf a := by
  unfold Txt.startswith
  rw [PySem.StrLaws.subAt_eq, sT_cps, sT_cps, sT_len, sT_len]
  rw [Bool.eq_iff_iff]
  simp only [Nat.zero_add, List.drop_zero, Bool.and_eq_true, decide_eq_true_eq, beq_iff_eq, List.isPrefixOf_iff_prefix]
  constructor
  · rintro ⟨_, h⟩
    refine ⟨a.drop b.length, ?_⟩
    conv => lhs; lhs; rw [← h]
    exact List.take_append_drop _ _
  · rintro ⟨t, rfl⟩
    simp
theorem ew_eq (a b : Tx) : Txt.endswith (sT a) (sT b) = b.isSuffixOf a := by
  unfold Txt.endswith
  rw [PySem.StrLaws.subAt_eq, sT_cps, sT_cps, sT_len, sT_len]
  rw [Bool.eq_iff_iff]
  simp only [Nat.zero_add, Bool.and_eq_true, decide_eq_true_eq, beq_iff_eq, List.isSuffixOf_iff_suffix]
  constructor
  · rintro ⟨h1, h⟩
    refine ⟨a.take (a.length - b.length), ?_⟩
    rw [List.take_of_length_le (by simp; omega)] at h
    conv => lhs; rhs; rw [← h]
    exact List.take_append_drop _ _
  · rintro ⟨t, rfl⟩
    simp
theorem glued_eq (a : Tx) : ∀ ys : List Tx, Txt.join (sT a) (ys.map sT) = sT (joinT a ys)
  | [] => rfl
  | x :: ys => by
    unfold Txt.join Builtin.Str.glued
    simp only [List.map_cons, List.drop_succ_cons, List.drop_zero, List.headD_cons]
    have key : ∀ (ys : List Tx) (x : Tx), (ys.map sT).foldl (fun acc p => acc ++ (sT a).cps ++ p.cps) (sT x).cps = (sT (joinT a (x :: ys))).cps := by
      intro ys
      induction ys with
      | nil => intro x; rfl
      | cons y ys ih =>
        intro x
        simp only [List.map_cons, List.foldl_cons]
        have : (sT x).cps ++ (sT a).cps ++ (sT y).cps = (sT (x ++ a ++ y)).cps := by simp [sT]
        rw [this, ih]
        cases ys with
        | nil => simp [joinT]
        | cons z zs => simp [joinT]
    rw [key]
theorem f_sw {K : PySem.W.Frag} : MtV K (fun x xs H Q => ∃ a b, x = .str a ∧ xs = [.str b] ∧ Q (.bl (Txt.startswith a b)) H) mSw := fun P H x vs d ds res Q s v1 v2 hf q => by
  unfold mSw at hf
  split at hf
  · cases hf
    obtain ⟨v, rfl, h⟩ := vl1 v2
    exact ⟨_, _, vstr v1, by rw [vstr h], by rw [sw_eq]; exact q _ P H (Al.refl s) dbl⟩
  · cases hf
theorem f_ew {K : PySem.W.Frag} : MtV K (fun x xs H Q => ∃ a b, x = .str a ∧ xs = [.str b] ∧ Q (.bl (Txt.endswith a b)) H) mEw := fun P H x vs d ds res Q s v1 v2 hf q => by
  unfold mEw at hf
  split at hf
  · cases hf
    obtain ⟨v, rfl, h⟩ := vl1 v2
    exact ⟨_, _, vstr v1, by rw [vstr h], by rw [ew_eq]; exact q _ P H (Al.refl s) dbl⟩
  · cases hf
theorem f_join {K : PySem.W.Frag} : MtV K (fun x xs H Q => ∃ a p, ∃ ys : List Str, x = .str a ∧ xs = [.ref p] ∧ (SqL K H p (ys.map V.str) ∨ SqT K H p (ys.map V.str)) ∧
    (ys.map (·.length)).sum + ys.length * a.length ≤ 16777216 ∧ Q (.str (Txt.join a ys)) H) mJoin := fun P H x vs d ds res Q s v1 v2 hf q => by
  unfold mJoin at hf
  split at hf
  · obtain ⟨ys, h1, h2⟩ := Option.bind_eq_some_iff.mp hf
    split at h2
    · rename_i hl
      cases h2
      have := allStrs_of h1
      subst this
      obtain ⟨v, rfl, h⟩ := vl1 v2
      obtain ⟨b, vs, rfl, e, l⟩ := vlst h
      rw [l.strs] at e
      refine ⟨_, b, ys.map sT, vstr v1, rfl, .inl (SqL.of e), ?_, by rw [glued_eq]; exact q _ P H (Al.refl s) dstr⟩
      have : (List.map (fun x => x.length) (List.map sT ys)).sum = (ys.map List.length).sum := by
        rw [List.map_map]; congr 1
      rw [this, List.length_map, sT_len]
      exact Nat.le_trans hl (by decide)
    · cases h2
  · cases hf
end Od
namespace Od
open PySem PySem.Spec L2
open PyProof.Rows hiding St
/-! ### records: a dict of written keys, with its parts -/
def gK (p : Str × V) : Key × V := (.inr p.1, p.2)
def getF : List (Tx × T1) → Tx → Option T1
  | [], _ => none
  | (j, t) :: fs, k => if j = k then some t else getF fs k
def setF : List (Tx × T1) → Tx → T1 → List (Tx × T1)
  | [], _, _ => []
  | (j, u) :: fs, k, t => if j = k then (j, t) :: fs else (j, u) :: setF fs k t
theorem setF_keys : ∀ (fs : List (Tx × T1)) (k : Tx) (t : T1), (setF fs k t).map Prod.fst = fs.map Prod.fst
  | [], _, _ => rfl
  | (j, u) :: fs, k, t => by
    unfold setF
    split
    · rfl
    · simp [setF_keys fs k t]
section
variable {K : PySem.W.Frag} {P P' : Hp} {W W' : Own} {H H' : Hp} {r : Option Nat}
theorem RF.get : ∀ {fs : List (Tx × T1)} {ws : List (Str × V)} {k : Tx} {t : T1}, RF K P W H r fs ws → getF fs k = some t → ∃ v, valV (ws.map gK) (.inr (sT k)) = some v ∧ R1 K P W H r (some k) t v
  | [], ws, k, t, h, e => by cases e
  | (j, u) :: fs, ws, k, t, h, e => by
    obtain ⟨v, w, rfl, h1, h2⟩ := h
    unfold getF at e
    split at e
    · rename_i hj
      cases e
      subst hj
      exact ⟨v, by simp only [List.map_cons]; exact valV_pos (p := gK (sT j, v)) rfl, h1⟩
    · rename_i hj
      obtain ⟨v', h3, h4⟩ := RF.get h2 e
      exact ⟨v', by simp only [List.map_cons]; rw [valV_neg (p := gK (sT j, v)) (fun z => hj (sT_inj (Sum.inr.inj z)))]; exact h3, h4⟩
theorem RF.keys : ∀ {fs : List (Tx × T1)} {ws : List (Str × V)}, RF K P W H r fs ws → ws.map Prod.fst = fs.map fun p => sT p.1
  | [], ws, h => by cases h; rfl
  | (j, u) :: fs, ws, h => by
    obtain ⟨v, w, rfl, h1, h2⟩ := h
    simp [RF.keys h2]
theorem RF.mono' {N : Tx → Prop} (s : Same P P') (w : ∀ f a, N f → W a = some (r, some f) → W' a = some (r, some f) ∧ ∀ o, H a = some o → H' a = some o) : ∀ (fs : List (Tx × T1)) (ws : List (Str × V)), (∀ f ∈ fs.map Prod.fst, N f) → RF K P W H r fs ws → RF K P' W' H' r fs ws
  | [], ws, _, h => h
  | (k, t) :: fs, ws, n, h => by
    obtain ⟨v, q, e, h1, h2⟩ := h
    exact ⟨v, q, e, R1.mono s (fun a => w k a (n k (by simp))) t v h1, RF.mono' s w fs q (fun f hf => n f (by simp at hf ⊢; exact .inr hf)) h2⟩
/-- one part is another one, the rest stays -/
theorem RF.set {k : Tx} {t0 t : T1} {v : V} (s : Same P P') (w : ∀ f a, f ≠ k → W a = some (r, some f) → W' a = some (r, some f) ∧ ∀ o, H a = some o → H' a = some o) (hv : R1 K P' W' H' r (some k) t v) :
    ∀ {fs : List (Tx × T1)} {ws : List (Str × V)}, getF fs k = some t0 → (fs.map Prod.fst).Nodup → RF K P W H r fs ws → ∃ ws', (ws.map gK).map (fun kv => if kv.1 = (.inr (sT k) : Key) then (kv.1, v) else kv) = ws'.map gK ∧ RF K P' W' H' r (setF fs k t) ws'
  | [], ws, e, _, _ => by cases e
  | (j, u) :: fs, ws, e, nd, h => by
    obtain ⟨v', q, rfl, h1, h2⟩ := h
    simp only [List.map_cons, List.nodup_cons] at nd
    unfold getF at e
    unfold setF
    by_cases hj : j = k
    · rw [if_pos hj]
      subst hj
      refine ⟨(sT j, v) :: q, ?_, v, q, rfl, hv, RF.mono' (N := fun f => f ≠ j) s w fs q (fun f hf z => nd.1 (by rw [← z]; exact hf)) h2⟩
      simp only [List.map_cons]
      have e1 : (gK (sT j, v')).1 = (Sum.inr (sT j) : Key) := rfl
      rw [if_pos e1]
      congr 1
      have kk := RF.keys h2
      have : ∀ p ∈ q.map gK, ¬ p.1 = (Sum.inr (sT j) : Key) := fun p hp z => by
        obtain ⟨x, hx, rfl⟩ := List.mem_map.mp hp
        have hx1 : x.1 ∈ q.map Prod.fst := List.mem_map.mpr ⟨x, hx, rfl⟩
        rw [kk] at hx1
        obtain ⟨y, hy, e3⟩ := List.mem_map.mp hx1
        have : sT y.1 = sT j := e3.trans (Sum.inr.inj z)
        exact nd.1 (by rw [← sT_inj this]; exact List.mem_map.mpr ⟨y, hy, rfl⟩)
      conv => rhs; rw [← List.map_id (q.map gK)]
      exact List.map_congr_left fun p hp => by rw [if_neg (this p hp)]; rfl
    · rw [if_neg hj] at e ⊢
      obtain ⟨ws', e2, h3⟩ := RF.set s w hv e nd.2 h2
      refine ⟨(sT j, v') :: ws', ?_, v', ws', rfl, R1.mono s (fun a => w j a hj) u v' h1, h3⟩
      simp only [List.map_cons]
      have e1 : ¬ (gK (sT j, v')).1 = (Sum.inr (sT k) : Key) := fun z => hj (sT_inj (Sum.inr.inj z))
      rw [if_neg e1, e2]
theorem RF.same {k : Tx} {t0 t : T1} {v : V} (s : Same P P') (w : ∀ f a, f ≠ k → W a = some (r, some f) → W' a = some (r, some f) ∧ ∀ o, H a = some o → H' a = some o) (hv : R1 K P' W' H' r (some k) t v) :
    ∀ {fs : List (Tx × T1)} {ws : List (Str × V)}, getF fs k = some t0 → valV (ws.map gK) (.inr (sT k)) = some v → (fs.map Prod.fst).Nodup → RF K P W H r fs ws → RF K P' W' H' r (setF fs k t) ws
  | [], ws, e, _, _, _ => by cases e
  | (j, u) :: fs, ws, e, hw, nd, h => by
    obtain ⟨v', q, rfl, h1, h2⟩ := h
    simp only [List.map_cons, List.nodup_cons] at nd hw
    unfold getF at e
    unfold setF
    by_cases hj : j = k
    · rw [if_pos hj]
      subst hj
      have e1 : valV (gK (sT j, v') :: q.map gK) (Sum.inr (sT j)) = some v' := valV_pos (p := gK (sT j, v')) rfl
      rw [e1] at hw
      have hw := Option.some.inj hw
      subst hw
      exact ⟨v', q, rfl, hv, RF.mono' (N := fun f => f ≠ j) s w fs q (fun f hf z => nd.1 (by rw [← z]; exact hf)) h2⟩
    · rw [if_neg hj] at e ⊢
      rw [valV_neg (p := gK (sT j, v')) (fun z => hj (sT_inj (Sum.inr.inj z)))] at hw
      exact ⟨v', q, rfl, R1.mono s (fun a => w j a hj) u v' h1, RF.same s w hv e hw nd.2 h2⟩
theorem RF.put {k : Tx} {t0 t : T1} {v : V} {fs : List (Tx × T1)} {ws : List (Str × V)} (s : Same P P') (w : ∀ f a, f ≠ k → W a = some (r, some f) → W' a = some (r, some f) ∧ ∀ o, H a = some o → H' a = some o) (hv : R1 K P' W' H' r (some k) t v)
    (e : getF fs k = some t0) (nd : (fs.map Prod.fst).Nodup) (h : RF K P W H r fs ws) : ∃ ws', putK (ws.map gK) (.inr (sT k)) v = ws'.map gK ∧ RF K P' W' H' r (setF fs k t) ws' := by
  obtain ⟨ws', e1, h1⟩ := RF.set s w hv e nd h
  refine ⟨ws', ?_, h1⟩
  obtain ⟨v0, e2, _⟩ := RF.get h e
  unfold putK
  rw [if_pos (by rw [valV_any, e2]; rfl)]
  exact e1
end
def rcdOf (ρ : Env) (i : Nat) : Option (List (Tx × T1)) := match ρ[i]? with
  | some (some (.rcd fs)) => some fs
  | _ => none
theorem rcdOf_some {ρ : Env} {i : Nat} {fs : List (Tx × T1)} (h : rcdOf ρ i = some fs) : ρ[i]? = some (some (.rcd fs)) := by
  unfold rcdOf at h
  split at h
  · rename_i e; cases h; exact e
  · cases h
def fldOf (ρ : Env) (i : Nat) (k : Tx) : Option T1 := (rcdOf ρ i).bind fun fs => getF fs k
section
variable {K : PySem.W.Frag} {mg : Str → Option Value} {P P' H H' : Hp} {W W' : Own} {σ : St} {ρ : Env}
theorem Wd.rcdAt {i : Nat} {fs : List (Tx × T1)} (w : Wd K mg P W H σ ρ) (e : rcdOf ρ i = some fs) : ∃ (a : Addr) (ws : List (Str × V)), σ[i]? = some (some (.ref a)) ∧ W a = some (some i, none) ∧ H a = some (.dK (ws.map gK)) ∧ (fs.map Prod.fst).Nodup ∧ RF K P W H (some i) fs ws ∧ i < ρ.length := by
  have e := rcdOf_some e
  obtain ⟨v, hs, hr⟩ := w.env i _ e
  obtain ⟨a, ws, rfl, hw, hh, nd, l⟩ := hr
  exact ⟨a, ws, hs, hw, hh, nd, l, (List.getElem?_eq_some_iff.mp e).1⟩
theorem Wd.fldAt {i : Nat} {k : Tx} {t : T1} (w : Wd K mg P W H σ ρ) (e : fldOf ρ i k = some t) : ∃ (a : Addr) (ws : List (Str × V)) (v : V), σ[i]? = some (some (.ref a)) ∧ H a = some (.dK (ws.map gK)) ∧ valV (ws.map gK) (.inr (sT k)) = some v ∧ R1 K P W H (some i) (some k) t v := by
  unfold fldOf at e
  obtain ⟨fs, e1, e2⟩ := Option.bind_eq_some_iff.mp e
  obtain ⟨a, ws, hs, hw, hh, nd, l, hi⟩ := w.rcdAt e1
  obtain ⟨v, h1, h2⟩ := RF.get l e2
  exact ⟨a, ws, v, hs, hh, h1, h2⟩
/-- an owned object is another one -/
theorem Wd.mutF {i : Nat} {l : Addr} {f : Option Tx} {o : HO} {t : T} {v : V} (w : Wd K mg P W H σ ρ) (hl : i < ρ.length) (hs : σ[i]? = some (some v)) (hw : W l = some (some i, f)) (ht : RT K mg P W (upd H l o) (some i) t v) :
    Wd K mg P W (upd H l o) σ (ρ.set i (some t)) ∧ Step P W H P W (upd H l o) := by
  have pl := (w.own l _ hw).1
  refine ⟨⟨fun a u e => ?_, fun a r e => ?_, fun j t' ej => ?_, by simpa using w.len⟩, same_refl P, fun a u h wa => ?_⟩
  · rw [upd_ne (ne_of_none e pl)]; exact w.same a u e
  · obtain ⟨h1, u, h2⟩ := w.own a r e
    refine ⟨h1, ?_⟩
    by_cases h : a = l
    · subst h; exact ⟨_, upd_same⟩
    · exact ⟨u, by rw [upd_ne h]; exact h2⟩
  · by_cases hj : j = i
    · subst hj
      rw [List.getElem?_set_self hl] at ej
      cases ej
      exact ⟨_, hs, ht⟩
    · rw [List.getElem?_set_ne (Ne.symm hj)] at ej
      obtain ⟨v, hs', hr⟩ := w.env j t' ej
      refine ⟨v, hs', RT.mono (same_refl P) (fun f x ex => ⟨ex, fun o h => ?_⟩) t' v hr⟩
      have hx : x ≠ l := fun z => by subst z; rw [hw] at ex; cases ex; exact hj rfl
      rw [upd_ne hx]; exact h
  · have ha : a ≠ l := fun z => by subst z; rw [hw] at wa; cases wa
    exact ⟨by rw [upd_ne ha]; exact h, wa, rfl⟩
end
/-- x['k'] -/
def eFld (i : Nat) (k : Tx) : EM := fun ρ => match fldOf ρ i k with
  | some (.sh d) => .ok (d, ρ)
  | _ => .fail
/-- len(x['k']) -/
def eFldLen (i : Nat) (k : Tx) : EM := fun ρ => match fldOf ρ i k with
  | some (.lst ds) => .ok (.int ds.length, ρ)
  | _ => .fail
/-- x['k'][j] -/
def eFldIx (i : Nat) (k : Tx) (j : Nat) : EM := fun ρ => match fldOf ρ i k, ρ[j]? with
  | some (.lst ds), some (some (.sh (.int n))) => match atI ds n with
    | some d => .ok (d, ρ)
    | none => .fail
  | _, _ => .fail
/-- x['k'] = e -/
def sFld (i : Nat) (k : Tx) (F : EM) : SM := fun ρ => F ρ >>= fun a => match rcdOf a.2 i with
  | some fs => match getF fs k with
    | some (.sh _) => if fs.length < 1000 then .ok (.nx (a.2.set i (some (.rcd (setF fs k (.sh a.1)))))) else .fail
    | _ => .fail
  | none => .fail
/-- x['k'][j] as a target -/
def gFldIx (i : Nat) (k : Tx) (j : Nat) : GM := fun d ρ => match rcdOf ρ i, ρ[j]? with
  | some fs, some (some (.sh (.int n))) => match getF fs k with
    | some (.lst ds) => if 0 ≤ n ∧ n < ds.length then some (ρ.set i (some (.rcd (setF fs k (.lst (ds.set n.toNat d)))))) else none
    | _ => none
  | _, _ => none
section
variable {X : Cx} {E : WX} {i j : Nat} {x y ks : Str} {k : Tx} {p1 p2 p3 p4 p5 : Pos} {n : Nat}
theorem ev_fld (hu : X.A.units + 1 < cLine) (hN : X.N[i]? = some x) (hv : Vis X.env.scope x) (hk : ks = sT k) (hd : (x == ("__debug__" : Str)) = false := by decide) (hcd : (x == ("__classdict__" : Str)) = false := by decide) :
    EV X E (.Subscript (.Name x p1) (.Constant (.str ks) n p2) p3) (eFld i k) :=
  PE.imp (pe_ix (ix_A hu) (pe_var hN hv hd hcd) pe_str (fun _ _ => rfl)) fun σ H Q ⟨P, W, ρ, w, g⟩ => by
    unfold eFld at g
    split at g
    · rename_i d e
      obtain ⟨a, ws, v, h1, h2, h3, h4⟩ := w.fldAt e
      refine ⟨_, h1, .inr ⟨a, v, rfl, ?_, g v P W H (Step.refl P W H) ⟨w, h4⟩⟩⟩
      rw [← h3, hk]
      exact DGet.k (k := .inr _) h2
    · exact g.elim
theorem ev_flen (hu : X.A.units + 1 < cLine) (hgl : Gl X "len") (hml : X.mg "len" = none) (hN : X.N[i]? = some x) (hv : Vis X.env.scope x) (hk : ks = sT k) (hd : (x == ("__debug__" : Str)) = false := by decide) (hcd : (x == ("__classdict__" : Str)) = false := by decide)
    (he : starEach [.Subscript (.Name x p1) (.Constant (.str ks) n p2) p3] X.env = (false, eval (.Subscript (.Name x p1) (.Constant (.str ks) n p2) p3) X.env) :: starEach [] X.env := by rfl) (hpl : (backTo p5 (starEach [] X.env)).any (·.1) = false := by rfl) :
    EV X E (.Call (.Name "len" p4) [.Subscript (.Name x p1) (.Constant (.str ks) n p2) p3] [] p5) (eFldLen i k) :=
  PE.imp (pe_callB cr_lenA hgl hml (by decide +kernel) (pa_cons (pe_ix (ix_A hu) (pe_var hN hv hd hcd) pe_str (fun _ _ => rfl)) pa_nil he) (by decide) (by decide) he hpl) fun σ H Q ⟨P, W, ρ, w, g⟩ => by
    unfold eFldLen at g
    split at g
    · rename_i ds e
      obtain ⟨a, ws, v, h1, h2, h3, h4⟩ := w.fldAt e
      obtain ⟨l, vs, rfl, hw, hh, dn⟩ := h4
      refine ⟨_, h1, .inr ⟨a, .ref l, rfl, ?_, .inl ⟨.ref l, vs.length, rfl, .inl ⟨vs, SqL.of hh, rfl⟩, ?_⟩⟩⟩
      · rw [← h3, hk]
        exact DGet.k (k := .inr _) h2
      · rw [dn.len]
        exact g _ P W H (Step.refl P W H) ⟨w, dint⟩
    · exact g.elim
theorem ev_fix (hu : X.A.units + 1 < cLine) (hN : X.N[i]? = some x) (hv : Vis X.env.scope x) (hk : ks = sT k) (hN2 : X.N[j]? = some y) (hv2 : Vis X.env.scope y) (hd : (x == ("__debug__" : Str)) = false := by decide) (hcd : (x == ("__classdict__" : Str)) = false := by decide)
    (hd2 : (y == ("__debug__" : Str)) = false := by decide) (hcd2 : (y == ("__classdict__" : Str)) = false := by decide) :
    EV X E (.Subscript (.Subscript (.Name x p1) (.Constant (.str ks) n p2) p3) (.Name y p4) p5) (eFldIx i k j) :=
  PE.imp (pe_ix (ix_A hu) (pe_ix (ix_A hu) (pe_var hN hv hd hcd) pe_str (fun _ _ => rfl)) (pe_var hN2 hv2 hd2 hcd2) (fun _ _ => rfl)) fun σ H Q ⟨P, W, ρ, w, g⟩ => by
    unfold eFldIx at g
    split at g
    · rename_i ds m e1 e2
      split at g
      · rename_i d e3
        obtain ⟨a, ws, v, h1, h2, h3, h4⟩ := w.fldAt e1
        obtain ⟨l, vs, rfl, hw, hh, dn⟩ := h4
        obtain ⟨v2, h5, h6⟩ := w.env j _ e2
        have h6 : Den X.K P (.int m) v2 := h6
        unfold Den at h6
        subst h6
        obtain ⟨v3, h7, h8⟩ := atI_den dn e3
        refine ⟨_, h1, .inr ⟨a, .ref l, rfl, ?_, _, h5, .inl (.inl ⟨l, vs, m, v3, rfl, rfl, SqL.of hh, h7, g v3 P W H (Step.refl P W H) ⟨w, h8⟩⟩)⟩⟩
        rw [← h3, hk]
        exact DGet.k (k := .inr _) h2
      · exact g.elim
    · exact g.elim
theorem sd_fld {md : List Bool} {value : Expr} {F : EM} {pos : Pos} (hu : X.A.units + 1 < cLine) (hN : X.N[i]? = some x) (hv : Vis X.env.scope x) (hk : ks = sT k) (he : EV X E value F) (hd : (x == ("__debug__" : Str)) = false := by decide) (hcd : (x == ("__classdict__" : Str)) = false := by decide)
    (hs : swapsWith value (some (.Subscript (.Name x p1) (.Constant (.str ks) n p2) p3)) pos.line X.env = pure false := by rfl) :
    SD X E md (.Assign [.Subscript (.Name x p1) (.Constant (.str ks) n p2) p3] value pos) (sFld i k F) :=
  PS.imp (ps_dput hu (pe_var hN hv hd hcd) pe_str he hs) fun D σ H ⟨P, W, ρ, w, g⟩ =>
    ⟨P, W, ρ, w, (GoS.val g).mono fun v H1 ⟨P1, W1, b, s1, ⟨w1, d1⟩, g1⟩ => by
      split at g1
      · rename_i fs e1
        split at g1
        · rename_i d0 e2
          split at g1
          · rename_i hlen
            obtain ⟨a, ws, h1, h2, h3, nd, l, hi⟩ := w1.rcdAt e1
            have hwl : ws.length = fs.length := by
              have := congrArg List.length (RF.keys l)
              simpa using this
            refine ⟨_, h1, a, upd H1 a (.dK (putK (ws.map gK) (.inr (sT k)) v)), rfl, ?_, ?_⟩
            · rw [hk]
              refine DPut.k (k := .inr _) h3 ?_
              rw [List.length_map, hwl]
              exact Nat.lt_of_lt_of_le hlen (by decide)
            · obtain ⟨ws', e3, l'⟩ := RF.put (H' := upd H1 a (.dK (putK (ws.map gK) (.inr (sT k)) v))) (same_refl P1) (fun f b _ hb => ⟨hb, fun o ho => by
                have : b ≠ a := fun z => by subst z; rw [h2] at hb; cases hb
                rw [upd_ne this]; exact ho⟩) (show R1 X.K P1 W1 _ (some i) (some k) (.sh b.1) v from d1) e2 nd l
              obtain ⟨w2, s2⟩ := w1.mutF (mg := X.mg) (o := .dK (putK (ws.map gK) (.inr (sT k)) v)) (t := .rcd (setF fs k (.sh b.1))) hi h1 h2 ⟨a, ws', rfl, h2, by rw [e3]; exact upd_same, by rw [setF_keys]; exact nd, l'⟩
              exact g1 σ P1 W1 _ s2 w2 (Kp.refl md σ)
          · exact g1.elim
        · exact g1.elim
      · exact g1.elim⟩
theorem ixN_of {n : Nat} {k : Int} (h : 0 ≤ k ∧ k < n) : ixN n k = some k.toNat := by
  unfold ixN
  first
    | (simp only [h.1, h.2, if_true, and_self]; done)
    | (split <;> first | rfl | omega)
theorem gd_fix {sl : List Nat} (hu : X.A.units + 1 < cLine) (hN : X.N[i]? = some x) (hv : Vis X.env.scope x) (hk : ks = sT k) (hN2 : X.N[j]? = some y) (hv2 : Vis X.env.scope y) (hd : (x == ("__debug__" : Str)) = false := by decide) (hcd : (x == ("__classdict__" : Str)) = false := by decide)
    (hd2 : (y == ("__debug__" : Str)) = false := by decide) (hcd2 : (y == ("__classdict__" : Str)) = false := by decide) :
    GD X sl (.Subscript (.Subscript (.Name x p1) (.Constant (.str ks) n p2) p3) (.Name y p4) p5) (gFldIx i k j) :=
  PG.imp (pg_sub (pe_ix (ix_A hu) (pe_var hN hv hd hcd) pe_str (fun _ _ => rfl)) (pe_var hN2 hv2 hd2 hcd2) set_list) fun v σ H Q ⟨P, W, ρ, d, ρ', w, dn, e, q⟩ => by
    unfold gFldIx at e
    split at e
    · rename_i fs m e1 e2
      split at e
      · rename_i ds e3
        split at e
        · rename_i hm
          cases e
          obtain ⟨a, ws, h1, h2, h3, nd, l, hi⟩ := w.rcdAt e1
          obtain ⟨v1, h4, h5⟩ := RF.get l e3
          obtain ⟨b, vs, rfl, hw, hh, dl⟩ := h5
          obtain ⟨v2, h6, h7⟩ := w.env j _ e2
          have h7 : Den X.K P (.int m) v2 := h7
          unfold Den at h7
          subst h7
          refine ⟨_, h1, .inr ⟨a, .ref b, rfl, ?_, _, h6, b, vs, m, m.toNat, rfl, rfl, hh, ixN_of (by rw [dl.len]; exact hm), ?_⟩⟩
          · rw [← h4, hk]
            exact DGet.k (k := .inr _) h3
          · have hab : a ≠ b := fun z => by subst z; rw [h2] at hw; cases hw
            have dl' := DenL.set m.toNat dl dn
            have l' := RF.same (v := .ref b) (H' := upd H b (.lst (vs.set m.toNat v))) (same_refl P) (fun f c hf hb => ⟨hb, fun o ho => by
              have : c ≠ b := fun z => by subst z; rw [hw] at hb; cases hb; exact hf rfl
              rw [upd_ne this]; exact ho⟩) (show R1 X.K P W _ (some i) (some k) (.lst (ds.set m.toNat d)) (.ref b) from ⟨b, _, rfl, hw, upd_same, dl'⟩) e3 h4 nd l
            obtain ⟨w2, s2⟩ := w.mutF (mg := X.mg) (o := .lst (vs.set m.toNat v)) (t := .rcd (setF fs k (.lst (ds.set m.toNat d)))) hi h1 hw ⟨a, ws, rfl, h2, by rw [upd_ne hab]; exact h3, by rw [setF_keys]; exact nd, l'⟩
            exact q σ P W _ s2 w2 (Ke.refl sl σ)
        · cases e
      · cases e
    · cases e
end
/-- {'k1': a list of its own, 'k2': e} -/
def tRcd2 (k1 : Tx) (C : OM) (k2 : Tx) (F : EM) : OM := fun ρ => C ρ >>= fun a => match a.1 with
  | .lst ds => F a.2 >>= fun b => if k1 ≠ k2 then .ok (.rcd [(k1, .lst ds), (k2, .sh b.1)], b.2) else .fail
  | _ => .fail
theorem Wd.disown {K : PySem.W.Frag} {mg : Str → Option Value} {P H : Hp} {W : Own} {σ : St} {ρ : Env} {b : Addr} {f : Option Tx} (w : Wd K mg P W H σ ρ) (h : W b = some (none, f)) : Wd K mg P (ownOff W b) H σ ρ := by
  refine ⟨w.same, fun a r e => ?_, fun i t e => ?_, w.len⟩
  · unfold ownOff at e
    split at e
    · cases e
    · exact w.own a r e
  · obtain ⟨v, hs, hr⟩ := w.env i t e
    refine ⟨v, hs, RT.mono (same_refl P) (fun f x ex => ⟨?_, fun _ h => h⟩) t v hr⟩
    unfold ownOff
    rw [if_neg (fun z => by subst z; rw [h] at ex; cases ex)]
    exact ex
section
variable {X : Cx} {E : WX} {a b : Expr} {k1 k2 : Tx} {s1 s2 : Str} {C : OM} {F : EM} {n1 n2 : Nat} {p1 p2 pos : Pos}
theorem et_rcd2 (h1 : s1 = sT k1) (h2 : s2 = sT k2) (ha : ET X E a C) (hb : EV X E b F) : ET X E (.Dict [some (.Constant (.str s1) n1 p1), some (.Constant (.str s2) n2 p2)] [a, b] pos) (tRcd2 k1 C k2 F) :=
  PE.imp (pe_disp (pps_cons pe_str ha (pps_cons pe_str hb pps_nil)) rfl rfl (by simp) (by simp)) fun σ H Q ⟨P, W, ρ, w, g⟩ p hp => by
    have al := Al.newH (P := P) (o := .dK []) w.same hp
    have wp : W p = none := by
      cases e : W p with
      | none => rfl
      | some r => obtain ⟨_, u, h⟩ := w.own p r e; rw [hp] at h; cases h
    refine ⟨P, W, ρ, w.al al, ?_⟩
    unfold tRcd2 at g
    cases hC : C ρ with
    | fail => rw [hC] at g; exact g.elim
    | exc x ρ' => rw [hC] at g; exact fun c od P' W' H' s => g c od P' W' H' ((al.step W).trans s)
    | ok r =>
      rw [hC, ok_bind] at g
      intro v P1 W1 H1 st1 ⟨w1, r1⟩
      obtain ⟨t, ρ1⟩ := r
      cases t with
      | lst ds =>
        simp only at g
        obtain ⟨c, vs, rfl, hw, hh, dl⟩ := r1
        obtain ⟨q1, q2, q3⟩ := st1.2 p _ upd_same wp
        have hcp : c ≠ p := fun z => by subst z; rw [hw] at q2; cases q2
        have pc := (w1.own c _ hw).1
        have w2 := w1.disown hw
        have st2 : Step P1 W1 H1 P1 (ownOff W1 c) H1 := ⟨same_refl P1, fun x o hx wx => ⟨hx, by
          unfold ownOff
          split
          · rfl
          · exact wx, rfl⟩⟩
        refine ⟨P1, ownOff W1 c, ρ1, w2, ?_⟩
        have off : ownOff W1 c c = none := by unfold ownOff; rw [if_pos rfl]
        have offp : ownOff W1 c p = none := by unfold ownOff; rw [if_neg (Ne.symm hcp)]; exact q2
        cases hF : F ρ1 with
        | fail => rw [hF] at g; exact g.elim
        | exc x ρ' => rw [hF] at g; exact fun c' od P' W' H' s => g c' od P' W' H' ((((al.step W).trans st1).trans st2).trans s)
        | ok r2 =>
          rw [hF, ok_bind] at g
          intro v2 P3 W3 H3 st3 ⟨w3, d3⟩
          split at g
          · rename_i hkk
            obtain ⟨c1, c2, c3⟩ := st3.2 c _ hh off
            obtain ⟨e1, e2, e3⟩ := st3.2 p _ q1 offp
            have pp3 : P3 p = none := by rw [e3, q3]; exact same_none w.same hp
            have pc3 : P3 c = none := by rw [c3]; exact pc
            refine ⟨e1, [(.inr (sT k1), .ref c), (.inr (sT k2), v2)], by rw [h1, h2]; rfl, by simp, ?_⟩
            have hm : mergeK [] [((.inr (sT k1) : Key), V.ref c), (.inr (sT k2), v2)] = [(sT k1, V.ref c), (sT k2, v2)].map gK := by
              have : ¬ (Sum.inr (sT k1) : Key) = Sum.inr (sT k2) := fun z => hkk (sT_inj (Sum.inr.inj z))
              simp [mergeK, putK, gK, this]
            rw [hm]
            refine g (.ref p) P3 (fun x => if x = p then some (none, none) else if x = c then some (none, some k1) else W3 x) _ ?_ ⟨⟨fun x o hx => ?_, fun x r hx => ?_, fun i t hi => ?_, w3.len⟩, p, [(sT k1, V.ref c), (sT k2, v2)], rfl, by simp, upd_same, by simpa using hkk, .ref c, [(sT k2, v2)], rfl, ?_, v2, [], rfl, d3, rfl⟩
            · refine ⟨((((al.step W).trans st1).trans st2).trans st3).1, fun x o hx wx => ?_⟩
              have hxp : x ≠ p := ne_of_none hx hp
              obtain ⟨z1, z2, z3⟩ := ((al.step W).trans st1).2 x o hx wx
              have hxc : x ≠ c := fun z => by subst z; rw [hw] at z2; cases z2
              obtain ⟨y1, y2, y3⟩ := ((((al.step W).trans st1).trans st2).trans st3).2 x o hx wx
              exact ⟨by rw [upd_ne hxp]; exact y1, by simp only [if_neg hxp, if_neg hxc]; exact y2, y3⟩
            · rw [upd_ne (ne_of_none hx pp3)]
              exact w3.same x o hx
            · by_cases hxp : x = p
              · subst hxp; exact ⟨pp3, _, upd_same⟩
              · simp only [if_neg hxp] at hx
                rw [upd_ne hxp]
                by_cases hxc : x = c
                · subst hxc; exact ⟨pc3, _, c1⟩
                · rw [if_neg hxc] at hx
                  exact w3.own x r hx
            · obtain ⟨v', hs, hr⟩ := w3.env i t hi
              refine ⟨v', hs, RT.mono (same_refl P3) (fun f x ex => ?_) t v' hr⟩
              have hxp : x ≠ p := fun z => by subst z; rw [e2] at ex; cases ex
              have hxc : x ≠ c := fun z => by subst z; rw [c2] at ex; cases ex
              exact ⟨by simp only [if_neg hxp, if_neg hxc]; exact ex, fun o ho => by rw [upd_ne hxp]; exact ho⟩
            · exact ⟨c, vs, rfl, by simp only [if_neg hcp, if_true], by rw [upd_ne hcp]; exact c1, DenL.mono st3.1 _ _ dl⟩
          · exact g.elim
      | _ => exact g.elim
end
end Od
namespace Od
open PySem PySem.Spec L2
open PyProof.Rows hiding St
/-! ### x, y = a, b: objects in hand wait -/
def rootT : T → Bool
  | .sh _ => true | .lst _ => true | .dct _ _ => true
  | _ => false
def Pend (K : PySem.W.Frag) (P : Hp) (W : Own) (H : Hp) : T → V → Prop
  | .sh d, v => Den K P d v
  | .lst ds, v => ∃ c vs, v = .ref c ∧ W c = none ∧ P c = none ∧ H c = some (.lst vs) ∧ DenL K P ds vs
  | .dct ks ds, v => ∃ c ws, v = .ref c ∧ W c = none ∧ P c = none ∧ H c = some (.dK ws) ∧ ws.map Prod.fst = ks.map kK ∧ DenL K P ds (ws.map Prod.snd)
  | _, _ => False
def RootAt : T → V → Addr → Prop
  | .lst _, v, x => v = .ref x
  | .dct _ _, v, x => v = .ref x
  | _, _, _ => False
section
variable {K : PySem.W.Frag} {mg : Str → Option Value} {P P' H H' : Hp} {W W' : Own} {σ : St} {ρ : Env} {t : T} {v : V}
theorem Wd.pend (w : Wd K mg P W H σ ρ) (h : RT K mg P W H none t v) (g : rootT t = true) : ∃ W', Wd K mg P W' H σ ρ ∧ Step P W H P W' H ∧ Pend K P W' H t v ∧ ∀ x, RootAt t v x → W x ≠ none := by
  have st : ∀ c, Step P W H P (ownOff W c) H := fun c => ⟨same_refl P, fun x o hx wx => ⟨hx, by
    unfold ownOff
    split
    · rfl
    · exact wx, rfl⟩⟩
  cases t with
  | sh d => exact ⟨W, w, Step.refl P W H, h, fun x z => z.elim⟩
  | lst ds =>
    obtain ⟨c, vs, rfl, hw, hh, l⟩ := h
    exact ⟨ownOff W c, w.disown hw, st c, ⟨c, vs, rfl, by unfold ownOff; rw [if_pos rfl], (w.own c _ hw).1, hh, l⟩, fun x z => by cases z; rw [hw]; simp⟩
  | dct ks ds =>
    obtain ⟨c, ws, rfl, hw, hh, k, l⟩ := h
    exact ⟨ownOff W c, w.disown hw, st c, ⟨c, ws, rfl, by unfold ownOff; rw [if_pos rfl], (w.own c _ hw).1, hh, k, l⟩, fun x z => by cases z; rw [hw]; simp⟩
  | _ => cases g
theorem Pend.step (h : Pend K P W H t v) (s : Step P W H P' W' H') : Pend K P' W' H' t v := by
  cases t with
  | sh d => exact Den.mono s.1 d v h
  | lst ds =>
    obtain ⟨c, vs, e, hw, hp, hh, l⟩ := h
    obtain ⟨a1, a2, a3⟩ := s.2 c _ hh hw
    exact ⟨c, vs, e, a2, by rw [a3]; exact hp, a1, DenL.mono s.1 _ _ l⟩
  | dct ks ds =>
    obtain ⟨c, vs, e, hw, hp, hh, k, l⟩ := h
    obtain ⟨a1, a2, a3⟩ := s.2 c _ hh hw
    exact ⟨c, vs, e, a2, by rw [a3]; exact hp, a1, k, DenL.mono s.1 _ _ l⟩
  | _ => exact h
theorem Pend.root {x : Addr} (h : Pend K P W H t v) (r : RootAt t v x) : W x = none ∧ P x = none ∧ ∃ o, H x = some o := by
  cases t with
  | lst ds =>
    obtain ⟨c, vs, e, hw, hp, hh, l⟩ := h
    cases r; cases e
    exact ⟨hw, hp, _, hh⟩
  | dct ks ds =>
    obtain ⟨c, vs, e, hw, hp, hh, k, l⟩ := h
    cases r; cases e
    exact ⟨hw, hp, _, hh⟩
  | _ => exact r.elim
/-- the waiting object goes to a slot -/
theorem Wd.adoptR {i : Nat} (w : Wd K mg P W H σ ρ) (h : Pend K P W H t v) (hi : i < ρ.length) :
    ∃ W', Wd K mg P W' H (σ.set i (some v)) (ρ.set i (some t)) ∧ ∀ x, W x = none → ¬ RootAt t v x → W' x = none := by
  have hσ : i < σ.length := Nat.lt_of_lt_of_le hi w.len
  classical
  refine ⟨fun a => if RootAt t v a then some (some i, none) else match W a with | some (some j, f) => if j = i then some (none, f) else some (some j, f) | o => o,
    ⟨w.same, fun a r ea => ?_, fun j t' ej => ?_, by simpa using w.len⟩, fun x hx nr => by simp only [if_neg nr, hx]⟩
  · by_cases hr : RootAt t v a
    · exact (h.root hr).2
    · simp only [if_neg hr] at ea
      cases q : W a with
      | none => simp only [q] at ea; cases ea
      | some r' => exact w.own a r' q
  · by_cases hj : j = i
    · subst hj
      rw [List.getElem?_set_self hi] at ej
      cases ej
      refine ⟨v, by rw [List.getElem?_set_self hσ], ?_⟩
      cases t with
      | sh d => exact h
      | lst ds =>
        obtain ⟨c, vs, e, hw, hp, hh, l⟩ := h
        exact ⟨c, vs, e, by simp only [if_pos (show RootAt (.lst ds) v c from e)], hh, l⟩
      | dct ks ds =>
        obtain ⟨c, vs, e, hw, hp, hh, k, l⟩ := h
        exact ⟨c, vs, e, by simp only [if_pos (show RootAt (.dct ks ds) v c from e)], hh, k, l⟩
      | _ => exact h.elim
    · rw [List.getElem?_set_ne (Ne.symm hj)] at ej
      obtain ⟨v', hs', hr'⟩ := w.env j t' ej
      refine ⟨v', by rw [List.getElem?_set_ne (Ne.symm hj)]; exact hs', RT.mono (same_refl P) (fun f x ex => ⟨?_, fun _ h => h⟩) t' v' hr'⟩
      have nr : ¬ RootAt t v x := fun z => by rw [(h.root z).1] at ex; cases ex
      simp only [if_neg nr, ex, if_neg hj]
end
def sPar (i : Nat) (A : OM) (j : Nat) (B : OM) : SM := fun ρ => A ρ >>= fun a => if rootT a.1 = true then B a.2 >>= fun b => if rootT b.1 = true ∧ i < b.2.length ∧ j < b.2.length then .ok (.nx ((b.2.set i (some a.1)).set j (some b.1))) else .fail else .fail
section
variable {X : Cx} {E : WX} {md : List Bool} {i j : Nat} {x y : Str} {a b : Expr} {A B : OM} {px py pt pos : Pos} {kt k2 : Nat} {pt2 : Pos}
theorem sd_par (hc : X.calm = true) (hN : X.N.Nodup) (hi : X.N[i]? = some x) (hj : X.N[j]? = some y) (hij : i ≠ j)
    (hx : X.env.scope.names.lookup x = some .local) (hy : X.env.scope.names.lookup y = some .local) (ha : ET X E a A) (hb : ET X E b B) (hk1 : md[i]? ≠ some true) (hk2 : md[j]? ≠ some true)
    (hw : swappedStores [.Tuple [.Name x px, .Name y py] kt pt] (.Tuple [a, b] k2 pt2) X.env = pure (some [x, y]))
    (hs1 : starEach [a, b] X.env = (false, eval a X.env) :: starEach [b] X.env := by rfl) (hs2 : starEach [b] X.env = (false, eval b X.env) :: starEach [] X.env := by rfl)
    (hs : swapsWithSole [.Tuple [.Name x px, .Name y py] kt pt] (.Tuple [a, b] k2 pt2) pos.line X.env = pure false := by rfl) :
    SD X E md (.Assign [.Tuple [.Name x px, .Name y py] kt pt] (.Tuple [a, b] k2 pt2) pos) (sPar i A j B) :=
  PS.imp (ps_par hc hN hi hj hij hx hy (pa_cons ha (pa_cons hb pa_nil hs2) hs1) hw hs) fun D σ H ⟨P, W, ρ, w, g⟩ => by
    refine ⟨P, W, ρ, w, ?_⟩
    unfold sPar at g
    cases hA : A ρ with
    | fail => rw [hA] at g; exact g.elim
    | exc e ρ' => rw [hA] at g; exact fun c od P' W' H' s w' r => g c od σ P' W' H' s w' (Kp.refl md σ) r
    | ok r =>
      rw [hA, ok_bind] at g
      intro v P1 W1 H1 st1 ⟨w1, r1⟩
      by_cases hr : rootT r.1 = true
      · rw [if_pos hr] at g
        obtain ⟨W2, w2, st2, pd, nr⟩ := w1.pend r1 hr
        refine ⟨P1, W2, r.2, w2, ?_⟩
        cases hB : B r.2 with
        | fail => rw [hB] at g; exact g.elim
        | exc e ρ' => rw [hB] at g; exact fun c od P' W' H' s w' r => g c od σ P' W' H' ((st1.trans st2).trans s) w' (Kp.refl md σ) r
        | ok r' =>
          rw [hB, ok_bind] at g
          intro v' P3 W3 H3 st3 ⟨w3, r3⟩
          split at g
          · rename_i hcond
            obtain ⟨g2, g3, g4⟩ := hcond
            have pd3 := pd.step st3
            obtain ⟨W4, w4, st4, pd', nr'⟩ := w3.pend r3 g2
            have pd4 := pd3.step st4
            obtain ⟨W5, w5, n5⟩ := w4.adoptR pd4 g3
            have pd5 : Pend X.K P3 W5 H3 r'.1 v' := by
              have key : ∀ x, RootAt r'.1 v' x → W5 x = none := fun x hx => n5 x (pd'.root hx).1 fun z => by
                have : W3 x = none := (pd3.root z).1
                exact nr' x hx this
              revert pd' key
              cases r'.1 with
              | sh d => exact fun q _ => q
              | lst ds => rintro ⟨c, vs, e, hw, hp, hh, l⟩ key; exact ⟨c, vs, e, key c e, hp, hh, l⟩
              | dct ks ds => rintro ⟨c, vs, e, hw, hp, hh, k, l⟩ key; exact ⟨c, vs, e, key c e, hp, hh, k, l⟩
              | _ => exact fun q _ => q
            obtain ⟨W6, w6, n6⟩ := w5.adoptR (i := j) pd5 (by simpa using g4)
            refine ⟨v, v', rfl, g _ P3 W6 H3 ?_ w6 (Kp.trans (Kp.set hk1) (Kp.set hk2))⟩
            have all := (((st1.trans st2).trans st3).trans st4)
            refine ⟨all.1, fun x o hx wx => ?_⟩
            obtain ⟨a1, a2, a3⟩ := all.2 x o hx wx
            refine ⟨a1, n6 x (n5 x a2 fun z => ?_) fun z => ?_, a3⟩
            · exact nr x z (st1.2 x o hx wx).2.1
            · exact nr' x z (((st1.trans st2).trans st3).2 x o hx wx).2.1
          · exact g.elim
      · rw [if_neg hr] at g; exact g.elim
end
end Od
namespace Od
open PySem PySem.Spec L2
open PyProof.Rows hiding St
theorem hu1 {k : Nat} {A : Around} (hr : RoomG k A) : A.units + 1 < cLine := by have := hr.un; omega
theorem hu65 {k : Nat} {A : Around} (hr : RoomG k A) : A.units + 65 < cLine := by have := hr.un; omega
def blkB (N : List Str) (sc scope : Scope) (own : List (Str × Nat)) : Bool :=
  decide (scope.kind = .function) && decide (∀ y ∈ scope.names, scope.names.lookup y.1 = some y.2) && decide (∀ p ∈ own, N[p.2]? = some p.1) &&
  decide (∀ y ∈ scope.names, y.2 = .free → sc.names.lookup y.1 = some .cell ∨ sc.names.lookup y.1 = some .free) && decide (∀ y ∈ scope.names, y.2 = .local ∨ y.2 = .cell → y.1 ∈ own.map (·.1) ∨ y.1 ∉ N)
theorem blk_ok {N : List Str} {sc scope : Scope} {own : List (Str × Nat)} (h : blkB N sc scope own = true) : BlkOk N sc scope own := by
  unfold blkB at h
  simp only [Bool.and_eq_true, decide_eq_true_eq] at h
  exact ⟨h.1.1.1.1, h.1.1.1.2, h.1.1.2, h.1.2, h.2⟩
theorem gl_ {X : Cx} {x : Str} (h : X.env.kindOf x = some .globalImplicit) : Gl X x := h
/-- a def that is never called -/
theorem Cal.zero {P : Program} {w : World} {K : PySem.W.Frag} {mg : Str → Option Value} {base : Heap} {x qual : Str} {st : Stmt} {f : Addr} {fd : FuncData} {N ps : List Str} (F : Fun K x qual st f fd) (hm : mg x = some (.ref f)) (hb : Binds K fd ps []) (S : FnScope N ps (defScope st)) :
    Cal P w K mg base 1 x (fun _ => .fail) := by
  refine ⟨f, fd, ps, okG (k := 0) F S (fun vs H Q E h => ?_) (fun cdv A outer s H vs Q E hr h => ?_), hm, F.kp, hb⟩
  · obtain ⟨P', W, ts, _, hl, m⟩ := h
    exact m.elim
  · obtain ⟨P', W, ts, _, hl, m⟩ := h
    exact m.elim
end Od
namespace Od
open PySem PySem.Spec L2
open PyProof.Rows hiding St
/-! ### zip of two lists or of two tuples -/
def zip2A : List D → Option (List D)
  | [.tup ds, .tup es] => some (zipD ds es)
  | ds => zip2 ds
section
variable {K : PySem.W.Frag} {P : Hp}
theorem it_zipT {a b : Addr} {ds es : List D} {vs ws : List V} (q : SqT K P a vs) (l : DenL K P ds vs) (q2 : SqT K P b ws) (l2 : DenL K P es ws) : ItOk K (RZ.ItzT K a b) P (zipD ds es) where
  go := fun i P2 H2 s s2 hi => by
    have hi' : i < min ds.length es.length := by simpa [zipD] using hi
    exact ⟨vs, ws, vs[i]'(by rw [l.len]; omega), ws[i]'(by rw [l2.len]; omega), same_t s2 (same_t s q), same_t s2 (same_t s q2), List.getElem?_eq_getElem _, List.getElem?_eq_getElem _⟩
  stop := fun P2 H2 s s2 => by
    have e : (zipD ds es).length = min ds.length es.length := by simp [zipD]
    refine ⟨vs, ws, same_t s2 (same_t s q), same_t s2 (same_t s q2), ?_⟩
    rw [e, l.len, l2.len]
    omega
  yld := fun i P2 H2 x H3 d s s2 hd y => by
    obtain ⟨T, x1, x2, rfl, n, rfl, f1, f2⟩ := y
    obtain ⟨d1, e1', dn1⟩ := l.get' (f1 vs (same_t s2 (same_t s q)))
    obtain ⟨d2, e2', dn2⟩ := l2.get' (f2 ws (same_t s2 (same_t s q2)))
    unfold zipD at hd
    have ez : (ds.zip es)[i]? = some (d1, d2) := List.getElem?_zip_eq_some.mpr ⟨e1', e2'⟩
    rw [List.getElem?_map, ez] at hd
    simp only [Option.map_some, Option.some.injEq] at hd
    rw [← hd]
    exact pair_new s2 n (Den.mono s _ _ dn1) (Den.mono s _ _ dn2)
theorem ht_zipA (ta : TA) (σ : St) (H : Hp) (R : It → Hp → Prop) (h : ta σ H fun vs H1 => ∃ P ds xs, Same P H1 ∧ DenL K P ds vs ∧ zip2A ds = some xs ∧ ∀ J, ItOk K J P xs → R J H1)
    (mo : ∀ Q Q' : List V → Hp → Prop, (∀ vs H1, Q vs H1 → Q' vs H1) → ta σ H Q → ta σ H Q') : RZ.iZipA K ta σ H R := by
  refine mo _ _ (fun vs H1 ⟨P, ds, xs, s, l, e, k⟩ => ?_) h
  unfold zip2A at e
  split at e
  · obtain ⟨v, u, rfl, dv, du⟩ := DenL.two l
    cases e
    unfold Den at dv du
    obtain ⟨a, ws, rfl, q, l2⟩ := dv
    obtain ⟨b, us, rfl, q2, l3⟩ := du
    exact ⟨a, b, ws, us, rfl, .inr ⟨same_t s q, same_t s q2, k _ (it_zipT q l2 q2 l3)⟩⟩
  · unfold zip2 at e
    split at e
    · obtain ⟨v, u, rfl, dv, du⟩ := DenL.two l
      obtain ⟨es, e1, e⟩ := Option.bind_eq_some_iff.mp e
      obtain ⟨fs, e2, rfl⟩ := Option.map_eq_some_iff.mp e
      obtain ⟨a, ws, rfl, q, l2⟩ := seqD_v dv e1
      obtain ⟨b, us, rfl, q2, l3⟩ := seqD_v du e2
      exact ⟨a, b, ws, us, rfl, .inl ⟨same_l s q, same_l s q2, k _ (it_zip q l2 q2 l3)⟩⟩
    · cases e
end
end Od
namespace Od
open PySem PySem.Spec L2
open PyProof.Rows hiding St
/-! ### the mirrors, read forwards: sat r Φ Ψ - it ends as Φ says, or raises as Ψ says -/
def sat {α : Type} (r : Res α) (Φ : α → Prop) (Ψ : Exn → Env → Prop) : Prop := match r with
  | .ok a => Φ a
  | .exc x ρ => Ψ x ρ
  | .fail => False
def satO0 (o : Out) (Φ : T → Env → Prop) (Ψ : Exn → Env → Prop) : Prop := match o with
  | .ok t os => Φ t os
  | .exc x os => Ψ x os
  | .fail => False
structure satO (o : Out) (Φ : T → Env → Prop) (Ψ : Exn → Env → Prop) : Prop where
  un : satO0 o Φ Ψ
theorem eqO {o : Out} {Φ : T → Env → Prop} {Ψ : Exn → Env → Prop} : satO o Φ Ψ = satO0 o Φ Ψ := propext ⟨fun h => h.un, fun h => ⟨h⟩⟩
def ex {α : Type} (o : Option α) (Φ : α → Prop) : Prop := match o with
  | some a => Φ a
  | none => False
section
variable {α β : Type} {Φ : α → Prop} {Φ' : β → Prop} {Ψ : Exn → Env → Prop} {ρ : Env}
theorem sat_ok (a : α) : sat (.ok a) Φ Ψ = Φ a := rfl
theorem sat_exc (x : Exn) : sat (.exc x ρ : Res α) Φ Ψ = Ψ x ρ := rfl
theorem sat_fail : sat (.fail : Res α) Φ Ψ = False := rfl
theorem sat_bind (r : Res β) (f : β → Res α) : sat (r >>= f) Φ Ψ = sat r (fun a => sat (f a) Φ Ψ) Ψ := by cases r <;> rfl
theorem sat_of (o : Option α) : sat (Res.of o) Φ Ψ = ex o Φ := by cases o <;> rfl
theorem ex_some (a : α) : ex (some a) Φ = Φ a := rfl
theorem ex_none : ex (none : Option α) Φ = False := rfl
theorem ex_bind (o : Option β) (f : β → Option α) : ex (o.bind f) Φ = ex o (fun a => ex (f a) Φ) := by cases o <;> rfl
theorem ex_map (o : Option β) (f : β → α) : ex (o.map f) Φ = ex o (fun a => Φ (f a)) := by cases o <;> rfl
theorem ex_ite (c : Prop) [Decidable c] (o : Option α) : ex (if c then o else none) Φ = (c ∧ ex o Φ) := by
  by_cases h : c
  · rw [if_pos h]; simp [h]
  · rw [if_neg h]; simp [h, ex_none]
theorem sat_ite (c : Prop) [Decidable c] (a b : Res α) : sat (if c then a else b) Φ Ψ = ((c → sat a Φ Ψ) ∧ (¬ c → sat b Φ Ψ)) := by
  by_cases h : c
  · rw [if_pos h]; simp [h]
  · rw [if_neg h]; simp [h]
theorem sat_iteF (c : Prop) [Decidable c] (a : Res α) : sat (if c then a else .fail) Φ Ψ = (c ∧ sat a Φ Ψ) := by
  by_cases h : c
  · rw [if_pos h]; simp [h]
  · rw [if_neg h]; simp [h, sat_fail]
theorem sat.mono {r : Res α} {Φ2 : α → Prop} (h : sat r Φ Ψ) (q : ∀ a, Φ a → Φ2 a) : sat r Φ2 Ψ := by
  cases r with
  | ok a => exact q a h
  | exc x ρ => exact h
  | fail => exact h
theorem satO.mono {r : Out} {Φ Φ2 : T → Env → Prop} (h : satO r Φ Ψ) (q : ∀ a os, Φ a os → Φ2 a os) : satO r Φ2 Ψ := by
  rw [eqO] at h ⊢
  cases r with
  | ok a os => exact q a os h
  | exc x ρ => exact h
  | fail => exact h
theorem satO.ex {r : Out} {Φ : T → Env → Prop} (h : satO r Φ (fun _ _ => False)) : ∃ t os, r = .ok t os ∧ Φ t os := by
  rw [eqO] at h
  cases r with
  | ok a os => exact ⟨a, os, rfl, h⟩
  | exc x ρ => exact h.elim
  | fail => exact h.elim
theorem sat.ex {r : Res α} {Φ : α → Prop} (h : sat r Φ (fun _ _ => False)) : ∃ t, r = .ok t ∧ Φ t := by
  cases r with
  | ok a => exact ⟨a, rfl, h⟩
  | exc x ρ => exact h.elim
  | fail => exact h.elim
end
/-! ### reading the environment -/
def lkS (ρ : Env) (i : Nat) : Option D := match ρ[i]? with
  | some (some (.sh d)) => some d
  | _ => none
def lkF (ρ : Env) (i : Nat) : Option D := match ρ[i]? with
  | some (some t) => frzT t
  | _ => none
def lkT (ρ : Env) (i : Nat) : Option T := match ρ[i]? with
  | some (some t) => some t
  | _ => none
def lkL (ρ : Env) (i : Nat) : Option (List D) := match ρ[i]? with
  | some (some (.lst ds)) => some ds
  | _ => none
def atH (ρ : Env) (i : Nat) : Option D := slotD ρ[i]?
section
variable {Ψ : Exn → Env → Prop} {ρ : Env} {Φ : D × Env → Prop} {ΦT : T × Env → Prop} {ΦH : Hd × Env → Prop} {ΦB : Bool × Env → Prop} {ΦS : Fl → Prop}
variable {A B C : HM} {F G : EM} {F' G' : OM} {b b' : BM} {S S' : SM}
theorem s_eC (d : D) : sat (eC d ρ) Φ Ψ = Φ (d, ρ) := rfl
theorem s_eV (i : Nat) : sat (eV i ρ) Φ Ψ = ex (lkS ρ i) (fun d => Φ (d, ρ)) := by
  unfold eV lkS
  generalize ρ[i]? = o
  rcases o with _ | (_ | t)
  · rfl
  · rfl
  · cases t <;> rfl
theorem s_eFv (i : Nat) : sat (eFv i ρ) Φ Ψ = ex (lkF ρ i) (fun d => Φ (d, List.set ρ i (some (.sh d)))) := by
  unfold eFv lkF
  generalize ρ[i]? = o
  rcases o with _ | (_ | t)
  · rfl
  · rfl
  · show sat (match frzT t with | some d => Res.ok (d, List.set ρ i (some (T.sh d))) | none => Res.fail) Φ Ψ = ex (frzT t) _
    generalize frzT t = z
    cases z <;> rfl
theorem s_tMv (i : Nat) : sat (tMv i ρ) ΦT Ψ = ex (lkT ρ i) (fun t => ΦT (t, List.set ρ i none)) := by
  unfold tMv lkT
  generalize ρ[i]? = o
  rcases o with _ | (_ | t) <;> rfl
theorem s_hSc (i : Nat) : sat (hSc i ρ) ΦH Ψ = ex (lkT ρ i) (fun _ => ΦH (.slot i, ρ)) := by
  unfold hSc lkT
  generalize ρ[i]? = o
  rcases o with _ | (_ | t) <;> rfl
theorem s_hV : sat (hV F ρ) ΦH Ψ = sat (F ρ) (fun a => ΦH (.val a.1, a.2)) Ψ := by unfold hV; rw [sat_bind]; rfl
theorem s_eFz : sat (eFz F' ρ) Φ Ψ = sat (F' ρ) (fun a => ex (frzT a.1) fun d => Φ (d, a.2)) Ψ := by
  unfold eFz; rw [sat_bind]
  congr 1; funext a
  cases frzT a.1 <;> rfl
theorem s_tSh : sat (tSh F ρ) ΦT Ψ = sat (F ρ) (fun a => ΦT (.sh a.1, a.2)) Ψ := by unfold tSh; rw [sat_bind]; rfl
theorem s_e1 (f : D → Option D) : sat (e1 f A ρ) Φ Ψ = sat (A ρ) (fun a => ex (getH a.1 a.2) fun d => ex (f d) fun r => Φ (r, a.2)) Ψ := by
  unfold e1; rw [sat_bind]; congr 1; funext a; rw [sat_bind, sat_of, ex_bind]; rfl
theorem s_e2 (f : D → D → Option D) : sat (e2 f A B ρ) Φ Ψ = sat (A ρ) (fun a => sat (B a.2) (fun b => ex (getH a.1 b.2) fun d => ex (getH b.1 b.2) fun e => ex (f d e) fun r => Φ (r, b.2)) Ψ) Ψ := by
  unfold e2; rw [sat_bind]; congr 1; funext a; rw [sat_bind]; congr 1; funext b; rw [sat_bind, sat_of, ex_bind]; congr 1; funext d; rw [ex_bind]; rfl
theorem s_t2 (f : D → D → Option (List D)) : sat (t2 f A B ρ) ΦT Ψ = sat (A ρ) (fun a => sat (B a.2) (fun b => ex (getH a.1 b.2) fun d => ex (getH b.1 b.2) fun e => ex (f d e) fun r => ΦT (.lst r, b.2)) Ψ) Ψ := by
  unfold t2; rw [sat_bind]; congr 1; funext a; rw [sat_bind]; congr 1; funext b; rw [sat_bind, sat_of, ex_bind]; congr 1; funext d; rw [ex_bind]; rfl
theorem s_b2 (f : D → D → Option Bool) : sat (b2 f A B ρ) ΦB Ψ = sat (A ρ) (fun a => sat (B a.2) (fun b => ex (getH a.1 b.2) fun d => ex (getH b.1 b.2) fun e => ex (f d e) fun r => ΦB (r, b.2)) Ψ) Ψ := by
  unfold b2; rw [sat_bind]; congr 1; funext a; rw [sat_bind]; congr 1; funext b; rw [sat_bind, sat_of, ex_bind]; congr 1; funext d; rw [ex_bind]; rfl
theorem ex_blOf (f : D → D → Option Bool) (d e : D) {Φ : D → Prop} : ex (blOf f d e) Φ = ex (f d e) fun b => Φ (.bl b) := by unfold blOf; rw [ex_map]
/-! lists of arguments -/
theorem s_vL0 {Φ : List D × Env → Prop} : sat (vL [] ρ) Φ Ψ = Φ ([], ρ) := rfl
theorem s_vL {Φ : List D × Env → Prop} (Fs : List EM) : sat (vL (F :: Fs) ρ) Φ Ψ = sat (F ρ) (fun a => sat (vL Fs a.2) (fun r => Φ (a.1 :: r.1, r.2)) Ψ) Ψ := by
  show sat (F ρ >>= _) _ _ = _
  rw [sat_bind]; congr 1; funext a; rw [sat_bind]; rfl
theorem s_hL0 {Φ : List Hd × Env → Prop} : sat (hL [] ρ) Φ Ψ = Φ ([], ρ) := rfl
theorem s_hL {Φ : List Hd × Env → Prop} (As : List HM) : sat (hL (A :: As) ρ) Φ Ψ = sat (A ρ) (fun a => sat (hL As a.2) (fun r => Φ (a.1 :: r.1, r.2)) Ψ) Ψ := by
  show sat (A ρ >>= _) _ _ = _
  rw [sat_bind]; congr 1; funext a; rw [sat_bind]; rfl
theorem ex_getL0 {Φ : List D → Prop} : ex (getL [] ρ) Φ = Φ [] := rfl
theorem ex_getL {Φ : List D → Prop} (h : Hd) (hs : List Hd) : ex (getL (h :: hs) ρ) Φ = ex (getH h ρ) fun d => ex (getL hs ρ) fun ds => Φ (d :: ds) := by
  show ex (Option.bind _ _) _ = _
  rw [ex_bind]; congr 1; funext d; rw [ex_bind]; rfl
theorem s_eTup (Fs : List EM) : sat (eTup Fs ρ) Φ Ψ = sat (vL Fs ρ) (fun a => a.1.length ≤ 1000000 ∧ Φ (.tup a.1, a.2)) Ψ := by
  unfold eTup; rw [sat_bind]; congr 1; funext a; rw [sat_iteF]; rfl
theorem s_tLst (Fs : List EM) : sat (tLst Fs ρ) ΦT Ψ = sat (vL Fs ρ) (fun a => a.1.length ≤ 1000000 ∧ ΦT (.lst a.1, a.2)) Ψ := by
  unfold tLst; rw [sat_bind]; congr 1; funext a; rw [sat_iteF]; rfl
theorem s_eCB (f : List D → Option D) (As : List HM) : sat (eCB f As ρ) Φ Ψ = sat (hL As ρ) (fun a => ex (getL a.1 a.2) fun ds => ex (f ds) fun r => Φ (r, a.2)) Ψ := by
  unfold eCB; rw [sat_bind]; congr 1; funext a; rw [sat_bind, sat_of, ex_bind]; rfl
theorem s_tCBL (f : List D → Option (List D)) (As : List HM) : sat (tCBL f As ρ) ΦT Ψ = sat (hL As ρ) (fun a => ex (getL a.1 a.2) fun ds => ex (f ds) fun r => ΦT (.lst r, a.2)) Ψ := by
  unfold tCBL; rw [sat_bind]; congr 1; funext a; rw [sat_bind, sat_of, ex_bind]; rfl
theorem s_eIsi (ks : List Kd) : sat (eIsi ks A ρ) Φ Ψ = sat (A ρ) (fun a => ex (getH a.1 a.2) fun d => ex (kdAny ks d) fun r => Φ (.bl r, a.2)) Ψ := by
  unfold eIsi; rw [sat_bind]; congr 1; funext a; rw [sat_bind, sat_of, ex_bind]; rfl
theorem s_eBM (t : Ty) (f : D → List D → Option D) (As : List HM) : sat (eBM t f A As ρ) Φ Ψ = sat (A ρ) (fun a => ((getH a.1 a.2).map (isTy t)) = some true ∧ sat (hL As a.2) (fun b => ex (getH a.1 b.2) fun d => ex (getL b.1 b.2) fun ds => ex (f d ds) fun r => Φ (r, b.2)) Ψ) Ψ := by
  unfold eBM; rw [sat_bind]; congr 1; funext a; rw [sat_iteF]; congr 1; rw [sat_bind]; congr 1; funext b; rw [sat_bind, sat_of, ex_bind]; congr 1; funext d; rw [ex_bind]; rfl
theorem s_tBML (t : Ty) (f : D → List D → Option (List D)) (As : List HM) : sat (tBML t f A As ρ) ΦT Ψ = sat (A ρ) (fun a => ((getH a.1 a.2).map (isTy t)) = some true ∧ sat (hL As a.2) (fun b => ex (getH a.1 b.2) fun d => ex (getL b.1 b.2) fun ds => ex (f d ds) fun r => ΦT (.lst r, b.2)) Ψ) Ψ := by
  unfold tBML; rw [sat_bind]; congr 1; funext a; rw [sat_iteF]; congr 1; rw [sat_bind]; congr 1; funext b; rw [sat_bind, sat_of, ex_bind]; congr 1; funext d; rw [ex_bind]; rfl
theorem s_eMut (i : Nat) (m : List D → List D → Option (List D × D)) (Fs : List EM) : sat (eMut i m Fs ρ) Φ Ψ = ex (lkL ρ i) (fun _ => sat (vL Fs ρ) (fun a => ex (lkL a.2 i) fun ds => ex (m ds a.1) fun r => Φ (r.2, List.set a.2 i (some (.lst r.1)))) Ψ) := by
  unfold eMut lkL
  generalize ρ[i]? = o
  rcases o with _ | (_ | t)
  · rfl
  · rfl
  · cases t with
    | lst ds0 =>
      show sat (vL Fs ρ >>= _) _ _ = sat (vL Fs ρ) _ _
      rw [sat_bind]; congr 1; funext a
      generalize a.2[i]? = o2
      rcases o2 with _ | (_ | t)
      · rfl
      · rfl
      · cases t with
        | lst ds =>
          show sat (Res.of (m ds a.1) >>= _) _ _ = ex (m ds a.1) _
          rw [sat_bind, sat_of]; rfl
        | _ => rfl
    | _ => rfl
theorem s_oN {Φ : Option Int × Env → Prop} : sat (oN ρ) Φ Ψ = Φ (none, ρ) := rfl
theorem s_oS {Φ : Option Int × Env → Prop} : sat (oS F ρ) Φ Ψ = sat (F ρ) (fun a => ex (intOf a.1) fun i => Φ (some i, a.2)) Ψ := by
  unfold oS; rw [sat_bind]; congr 1; funext a; rw [sat_bind, sat_of]; rfl
theorem s_eCut (l u : Env → Res (Option Int × Env)) : sat (eCut A l u ρ) Φ Ψ = sat (A ρ) (fun a => sat (l a.2) (fun x => sat (u x.2) (fun y => ex (getH a.1 y.2) fun d => ex (fCut x.1 y.1 d) fun r => Φ (r, y.2)) Ψ) Ψ) Ψ := by
  unfold eCut; rw [sat_bind]; congr 1; funext a; rw [sat_bind]; congr 1; funext x; rw [sat_bind]; congr 1; funext y; rw [sat_bind, sat_of, ex_bind]; rfl
theorem s_tCut (l u : Env → Res (Option Int × Env)) : sat (tCut A l u ρ) ΦT Ψ = sat (A ρ) (fun a => sat (l a.2) (fun x => sat (u x.2) (fun y => ex (getH a.1 y.2) fun d => ex (lCut x.1 y.1 d) fun r => ΦT (.lst r, y.2)) Ψ) Ψ) Ψ := by
  unfold tCut; rw [sat_bind]; congr 1; funext a; rw [sat_bind]; congr 1; funext x; rw [sat_bind]; congr 1; funext y; rw [sat_bind, sat_of, ex_bind]; rfl
def blD : D → Option Bool
  | .bl b => some b
  | _ => none
theorem s_bVal : sat (bVal F ρ) ΦB Ψ = sat (F ρ) (fun a => ex (blD a.1) fun b => ΦB (b, a.2)) Ψ := by
  unfold bVal; rw [sat_bind]; congr 1; funext a; cases a.1 <;> rfl
theorem s_bNot : sat (bNot b ρ) ΦB Ψ = sat (b ρ) (fun a => ΦB (!a.1, a.2)) Ψ := by unfold bNot; rw [sat_bind]; rfl
theorem s_bAnd : sat (bAnd b b' ρ) ΦB Ψ = sat (b ρ) (fun a => (a.1 = true → sat (b' a.2) ΦB Ψ) ∧ (a.1 = false → ΦB (false, a.2))) Ψ := by
  unfold bAnd; rw [sat_bind]; congr 1; funext a
  rw [sat_ite]
  cases a.1 <;> simp [sat_ok]
theorem s_bOr : sat (bOr b b' ρ) ΦB Ψ = sat (b ρ) (fun a => (a.1 = true → ΦB (true, a.2)) ∧ (a.1 = false → sat (b' a.2) ΦB Ψ)) Ψ := by
  unfold bOr; rw [sat_bind]; congr 1; funext a
  rw [sat_ite]
  cases a.1 <;> simp [sat_ok]
theorem s_eIf : sat (eIf b F G ρ) Φ Ψ = sat (b ρ) (fun a => (a.1 = true → sat (F a.2) Φ Ψ) ∧ (a.1 = false → sat (G a.2) Φ Ψ)) Ψ := by
  unfold eIf; rw [sat_bind]; congr 1; funext a
  rw [sat_ite]
  cases a.1 <;> simp
theorem s_eAnd : sat (eAnd F G ρ) Φ Ψ = sat (F ρ) (fun a => ex (blD a.1) fun b => (b = true → sat (G a.2) Φ Ψ) ∧ (b = false → Φ (.bl false, a.2))) Ψ := by
  unfold eAnd; rw [sat_bind]; congr 1; funext a
  cases a.1 <;> first | rfl | skip
  rename_i b
  cases b <;> simp [blD, ex, sat]
theorem s_eOr : sat (eOr F G ρ) Φ Ψ = sat (F ρ) (fun a => ex (blD a.1) fun b => (b = true → Φ (.bl true, a.2)) ∧ (b = false → sat (G a.2) Φ Ψ)) Ψ := by
  unfold eOr; rw [sat_bind]; congr 1; funext a
  cases a.1 <;> first | rfl | skip
  rename_i b
  cases b <;> simp [blD, ex, sat]
theorem s_eNot : sat (eNot F ρ) Φ Ψ = sat (F ρ) (fun a => ex (blD a.1) fun b => Φ (.bl (!b), a.2)) Ψ := by
  unfold eNot; rw [sat_bind]; congr 1; funext a
  cases a.1 <;> rfl
theorem s_eChain (f g : D → D → Option Bool) : sat (eChain f g A B C ρ) Φ Ψ = sat (A ρ) (fun a => sat (B a.2) (fun b => ex (getH a.1 b.2) fun d => ex (getH b.1 b.2) fun e => ex (f d e) fun r =>
    (r = true → sat (C b.2) (fun c => ex (getH b.1 c.2) fun d => ex (getH c.1 c.2) fun e => ex (g d e) fun r2 => Φ (.bl r2, c.2)) Ψ) ∧ (r = false → Φ (.bl false, b.2))) Ψ) Ψ := by
  unfold eChain; rw [sat_bind]; congr 1; funext a; rw [sat_bind]; congr 1; funext b; rw [sat_bind, sat_of, ex_bind]; congr 1; funext d; rw [ex_bind]; congr 1; funext e; congr 1; funext r
  rw [sat_ite]
  have : sat (C b.2 >>= fun c => Res.of ((getH b.1 c.2).bind fun d => (getH c.1 c.2).bind fun e => g d e) >>= fun r2 => Res.ok (D.bl r2, c.2)) Φ Ψ = sat (C b.2) (fun c => ex (getH b.1 c.2) fun d => ex (getH c.1 c.2) fun e => ex (g d e) fun r2 => Φ (.bl r2, c.2)) Ψ := by
    rw [sat_bind]; congr 1; funext c; rw [sat_bind, sat_of, ex_bind]; congr 1; funext d; rw [ex_bind]; rfl
  rw [this]
  cases r <;> simp [sat_ok]
theorem s_bChain (f g : D → D → Option Bool) : sat (bChain f g A B C ρ) ΦB Ψ = sat (eChain f g A B C ρ) (fun a => ex (blD a.1) fun b => ΦB (b, a.2)) Ψ := s_bVal
/-! calls -/
theorem s_aL0 {Φ : List (Option D) × Env → Prop} : sat (aL [] ρ) Φ Ψ = Φ ([], ρ) := rfl
theorem s_aLv {Φ : List (Option D) × Env → Prop} (As : List Arg) : sat (aL (.v F :: As) ρ) Φ Ψ = sat (F ρ) (fun a => sat (aL As a.2) (fun r => Φ (some a.1 :: r.1, r.2)) Ψ) Ψ := by
  show sat (F ρ >>= _) _ _ = _
  rw [sat_bind]; congr 1; funext a; rw [sat_bind]; rfl
theorem s_aLi {Φ : List (Option D) × Env → Prop} (i : Nat) (As : List Arg) : sat (aL (.io i :: As) ρ) Φ Ψ = ex (lkT ρ i) fun _ => sat (aL As ρ) (fun r => Φ (none :: r.1, r.2)) Ψ := by
  unfold lkT
  conv => lhs; unfold aL
  generalize ρ[i]? = o
  rcases o with _ | (_ | t)
  · rfl
  · rfl
  · show sat (aL As ρ >>= _) _ _ = sat (aL As ρ) _ _
    rw [sat_bind]; rfl
theorem ex_mkT0 {Φ : List T → Prop} : ex (mkT [] [] ρ) Φ = Φ [] := rfl
theorem ex_mkTv {Φ : List T → Prop} (As : List Arg) (d : D) (r : List (Option D)) : ex (mkT (.v F :: As) (some d :: r) ρ) Φ = ex (mkT As r ρ) fun ts => Φ (.sh d :: ts) := by
  conv => lhs; unfold mkT
  rw [ex_map]
theorem ex_mkTi {Φ : List T → Prop} (i : Nat) (As : List Arg) (r : List (Option D)) : ex (mkT (.io i :: As) (none :: r) ρ) Φ = ex (lkT ρ i) fun t => ex (mkT As r ρ) fun ts => Φ (t :: ts) := by
  unfold lkT
  conv => lhs; unfold mkT
  generalize ρ[i]? = o
  rcases o with _ | (_ | t)
  · rfl
  · rfl
  · show ex (Option.map _ _) _ = ex (mkT As r ρ) _
    rw [ex_map]
theorem s_eCall (f : Fn) (As : List Arg) : sat (eCall f As ρ) ΦT Ψ = (nodupB (iosOf As) = true ∧ sat (aL As ρ) (fun a => ex (mkT As a.1 a.2) fun ts => satO (f ts) (fun t os => ΦT (t, putB As os a.2)) (fun x os => Ψ x (putB As os a.2))) Ψ) := by
  unfold eCall; rw [sat_iteF]; congr 1; rw [sat_bind]; congr 1; funext a; rw [sat_bind, sat_of]; congr 1; funext ts
  rw [eqO]
  cases f ts <;> rfl
/-! statements -/
theorem s_seq : sat (sSeq S S' ρ) ΦS Ψ = sat (S ρ) (fun f => match f with | .nx ρ1 => sat (S' ρ1) ΦS Ψ | r => ΦS r) Ψ := by
  unfold sSeq
  cases S ρ with
  | ok f => cases f <;> rfl
  | exc x ρ => rfl
  | fail => rfl
theorem s_nil : sat (sNil ρ) ΦS Ψ = ΦS (.nx ρ) := rfl
theorem s_expr : sat (sExpr F ρ) ΦS Ψ = sat (F ρ) (fun a => ΦS (.nx a.2)) Ψ := by unfold sExpr; rw [sat_bind]; rfl
theorem s_ret : sat (sRet F' ρ) ΦS Ψ = sat (F' ρ) (fun a => ΦS (.rt a.1 a.2)) Ψ := by unfold sRet; rw [sat_bind]; rfl
theorem s_retV : sat (sRetV F ρ) ΦS Ψ = sat (F ρ) (fun a => ΦS (.rt (.sh a.1) a.2)) Ψ := by unfold sRetV; rw [sat_bind]; rfl
theorem s_if : sat (sIf b S S' ρ) ΦS Ψ = sat (b ρ) (fun a => (a.1 = true → sat (S a.2) ΦS Ψ) ∧ (a.1 = false → sat (S' a.2) ΦS Ψ)) Ψ := by
  unfold sIf; rw [sat_bind]; congr 1; funext a
  rw [sat_ite]
  cases a.1 <;> simp
theorem ex_putE (i : Nat) (t : T) {Φ : Env → Prop} : ex (putE i t ρ) Φ = (i < ρ.length ∧ Φ (List.set ρ i (some t))) := by unfold putE; rw [ex_ite]; rfl
theorem s_set (i : Nat) : sat (sSet i F' ρ) ΦS Ψ = sat (F' ρ) (fun a => i < a.2.length ∧ ΦS (.nx (List.set a.2 i (some a.1)))) Ψ := by
  unfold sSet; rw [sat_bind]; congr 1; funext a; rw [sat_bind, sat_of, ex_putE]; rfl
theorem s_setV (i : Nat) : sat (sSetV i F ρ) ΦS Ψ = sat (F ρ) (fun a => i < a.2.length ∧ ΦS (.nx (List.set a.2 i (some (.sh a.1))))) Ψ := by
  unfold sSetV; rw [sat_bind]; congr 1; funext a; rw [sat_bind, sat_of, ex_putE]; rfl
theorem s_wipe (is : List Nat) : sat (sWipe is S ρ) ΦS Ψ = sat (S ρ) (fun f => ΦS (wipeF is f)) Ψ := by
  unfold sWipe
  cases S ρ <;> rfl
theorem s_asg (g : GM) : sat (sAsg g F ρ) ΦS Ψ = sat (F ρ) (fun a => ex (g a.1 a.2) fun ρ1 => ΦS (.nx ρ1)) Ψ := by
  unfold sAsg; rw [sat_bind]; congr 1; funext a; rw [sat_bind, sat_of]; rfl
theorem s_par (i j : Nat) : sat (sPar i F' j G' ρ) ΦS Ψ = sat (F' ρ) (fun a => rootT a.1 = true ∧ sat (G' a.2) (fun b => (rootT b.1 = true ∧ i < b.2.length ∧ j < b.2.length) ∧ ΦS (.nx (List.set (List.set b.2 i (some a.1)) j (some b.1)))) Ψ) Ψ := by
  unfold sPar; rw [sat_bind]; congr 1; funext a; rw [sat_iteF, sat_bind]; congr 1; congr 1; funext b; rw [sat_iteF]; rfl
theorem ex_gNm (i : Nat) (d : D) {Φ : Env → Prop} : ex (gNm i d ρ) Φ = (i < ρ.length ∧ Φ (List.set ρ i (some (.sh d)))) := ex_putE i (.sh d)
theorem ex_gTp (gs : List GM) (ds : List D) {Φ : Env → Prop} : ex (gTp gs (.tup ds) ρ) Φ = ex (gEach gs ds ρ) Φ := rfl
theorem ex_gE0 {Φ : Env → Prop} : ex (gEach [] [] ρ) Φ = Φ ρ := rfl
theorem ex_gE (g : GM) (gs : List GM) (d : D) (ds : List D) {Φ : Env → Prop} : ex (gEach (g :: gs) (d :: ds) ρ) Φ = ex (g d ρ) fun ρ1 => ex (gEach gs ds ρ1) Φ := by
  conv => lhs; unfold gEach
  rw [ex_bind]
/-! records -/
theorem s_fld (i : Nat) (k : Tx) : sat (eFld i k ρ) Φ Ψ = ex (rcdOf ρ i) fun fs => ex (getF fs k) fun t => match t with | .sh d => Φ (d, ρ) | _ => False := by
  unfold eFld fldOf
  cases rcdOf ρ i with
  | none => rfl
  | some fs =>
    show sat (match getF fs k with | some (.sh d) => Res.ok (d, ρ) | _ => .fail) _ _ = ex (getF fs k) _
    cases getF fs k with
    | none => rfl
    | some t => cases t <;> rfl
theorem s_flen (i : Nat) (k : Tx) : sat (eFldLen i k ρ) Φ Ψ = ex (rcdOf ρ i) fun fs => ex (getF fs k) fun t => match t with | .lst ds => Φ (.int ds.length, ρ) | _ => False := by
  unfold eFldLen fldOf
  cases rcdOf ρ i with
  | none => rfl
  | some fs =>
    show sat (match getF fs k with | some (.lst ds) => Res.ok (D.int ds.length, ρ) | _ => .fail) _ _ = ex (getF fs k) _
    cases getF fs k with
    | none => rfl
    | some t => cases t <;> rfl
theorem s_fix (i : Nat) (k : Tx) (j : Nat) : sat (eFldIx i k j ρ) Φ Ψ = ex (rcdOf ρ i) fun fs => ex (lkS ρ j) fun n => ex (intOf n) fun n => ex (getF fs k) fun t => match t with | .lst ds => ex (atI ds n) fun d => Φ (d, ρ) | _ => False := by
  unfold eFldIx fldOf lkS
  cases h1 : rcdOf ρ i with
  | none =>
    show sat (match (none : Option T1), ρ[j]? with | _, _ => _) _ _ = False
    rfl
  | some fs =>
    show sat (match getF fs k, ρ[j]? with
      | some (.lst ds), some (some (.sh (.int n))) => (match atI ds n with
        | some d => Res.ok (d, ρ)
        | none => .fail)
      | _, _ => .fail) _ _ = ex (match ρ[j]? with | some (some (.sh d)) => some d | _ => none) fun n => ex (intOf n) fun n => ex (getF fs k) fun t => _
    generalize ρ[j]? = o
    generalize getF fs k = q
    have f : ∀ q : Option T1, ex q (fun _ => False) = False := fun q => by cases q <;> rfl
    rcases o with _ | (_ | t)
    · cases q with
      | none => rfl
      | some t => cases t <;> rfl
    · cases q with
      | none => rfl
      | some t => cases t <;> rfl
    · cases t with
      | sh d =>
        cases d with
        | int n =>
          cases q with
          | none => rfl
          | some t =>
            cases t with
            | lst ds =>
              show sat (match atI ds n with | some d => Res.ok (d, ρ) | none => .fail) _ _ = ex (atI ds n) _
              cases atI ds n <;> rfl
            | _ => rfl
        | _ =>
          cases q with
          | none => rfl
          | some t => cases t <;> rfl
      | _ =>
        cases q with
        | none => rfl
        | some t => cases t <;> rfl
theorem s_sFld (i : Nat) (k : Tx) : sat (sFld i k F ρ) ΦS Ψ = sat (F ρ) (fun a => ex (rcdOf a.2 i) fun fs => ex (getF fs k) fun t => match t with | .sh _ => fs.length < 1000 ∧ ΦS (.nx (List.set a.2 i (some (.rcd (setF fs k (.sh a.1)))))) | _ => False) Ψ := by
  unfold sFld; rw [sat_bind]; congr 1; funext a
  cases rcdOf a.2 i with
  | none => rfl
  | some fs =>
    show sat (match getF fs k with | some (.sh _) => (if fs.length < 1000 then Res.ok (Fl.nx (a.2.set i (some (.rcd (setF fs k (.sh a.1)))))) else .fail) | _ => .fail) _ _ = ex (getF fs k) _
    cases getF fs k with
    | none => rfl
    | some t =>
      cases t with
      | sh d => show sat (if _ then _ else _) _ _ = _; rw [sat_iteF]; rfl
      | _ => rfl
theorem s_gfix (i : Nat) (k : Tx) (j : Nat) (d : D) {Φ : Env → Prop} : ex (gFldIx i k j d ρ) Φ = ex (rcdOf ρ i) fun fs => ex (lkS ρ j) fun n => ex (intOf n) fun n => ex (getF fs k) fun t => match t with | .lst ds => (0 ≤ n ∧ n < ds.length) ∧ Φ (List.set ρ i (some (.rcd (setF fs k (.lst (ds.set n.toNat d)))))) | _ => False := by
  unfold gFldIx lkS
  cases rcdOf ρ i with
  | none => rfl
  | some fs =>
    cases ρ[j]? with
    | none => rfl
    | some o =>
      cases o with
      | none => rfl
      | some t' =>
        cases t' with
        | sh d =>
          cases d with
          | int n =>
            show ex (match getF fs k with | _ => _) _ = ex (getF fs k) _
            cases getF fs k with
            | none => rfl
            | some t =>
              cases t with
              | lst ds => show ex (if _ then _ else _) _ = _; rw [ex_ite]; rfl
              | _ => rfl
          | _ => rfl
        | _ => rfl
theorem s_rcd2 (k1 k2 : Tx) : sat (tRcd2 k1 F' k2 F ρ) ΦT Ψ = sat (F' ρ) (fun a => match a.1 with | .lst ds => sat (F a.2) (fun b => k1 ≠ k2 ∧ ΦT (.rcd [(k1, .lst ds), (k2, .sh b.1)], b.2)) Ψ | _ => False) Ψ := by
  unfold tRcd2; rw [sat_bind]; congr 1; funext a
  cases a.1 with
  | lst ds => show sat (F a.2 >>= _) _ _ = _; rw [sat_bind]; congr 1; funext b; rw [sat_iteF]; rfl
  | _ => rfl
/-! walks -/
theorem s_iArg {Φ : List D × Env → Prop} (f : List D → Option (List D)) (Fs : List EM) : sat (iArg f Fs ρ) Φ Ψ = sat (vL Fs ρ) (fun a => ex (f a.1) fun xs => Φ (xs, a.2)) Ψ := by
  unfold iArg; rw [sat_bind]; congr 1; funext a; rw [sat_bind, sat_of]; rfl
theorem s_iSeq {Φ : List D × Env → Prop} : sat (iSeq F ρ) Φ Ψ = sat (F ρ) (fun a => ex (seqD a.1) fun xs => Φ (xs, a.2)) Ψ := by
  unfold iSeq; rw [sat_bind]; congr 1; funext a; cases a.1 <;> rfl
theorem s_for (g : GM) (I : IM) : sat (sFor g I S ρ) ΦS Ψ = sat (I ρ) (fun a => sat (forL g S a.1 a.2) ΦS Ψ) Ψ := by unfold sFor; rw [sat_bind]
theorem s_comp (own : List Nat) (g : GM) (I : IM) : sat (tComp own g I b F ρ) ΦT Ψ = sat (I ρ) (fun a => sat (cmpL own g b F a.1 [] a.2) ΦT Ψ) Ψ := by unfold tComp; rw [sat_bind]
theorem s_bTrue : sat (bTrue ρ) ΦB Ψ = ΦB (true, ρ) := rfl
end
theorem satO_fn (N n : Nat) (md : List Bool) (B : SM) (ts : List T) {Φ : T → Env → Prop} {Ψ : Exn → Env → Prop} : satO (fnOf N n md B ts) Φ Ψ = (ts.length = n ∧ sat (B (ts.map some ++ List.replicate (N - n) none)) (fun f => match f with | .rt t ρ => Φ t (maskE md ρ) | .nx ρ => Φ (.sh .non) (maskE md ρ) | _ => False) (fun x ρ => Ψ x (maskE md ρ))) := by
  rw [eqO]
  unfold fnOf
  by_cases h : ts.length = n
  · rw [if_pos h]
    simp only [h, true_and]
    cases B (ts.map some ++ List.replicate (N - n) none) with
    | ok f => cases f <;> rfl
    | exc x ρ => rfl
    | fail => rfl
  · rw [if_neg h]; simp [h, satO0]
/-! ### loops by what holds at each turn -/
theorem for_inv {g : GM} {B : SM} {Φ : Fl → Prop} {Ψ : Exn → Env → Prop} (Inv : Nat → Env → Prop) {xs : List D} {ρ : Env} (h0 : Inv 0 ρ)
    (step : ∀ i x ρ, xs[i]? = some x → Inv i ρ → ex (g x ρ) fun ρ1 => sat (B ρ1) (fun f => match f with | .nx ρ2 => Inv (i + 1) ρ2 | .ct ρ2 => Inv (i + 1) ρ2 | .bk ρ2 => Φ (.nx ρ2) | .rt t ρ2 => Φ (.rt t ρ2)) Ψ)
    (hend : ∀ ρ, Inv xs.length ρ → Φ (.nx ρ)) : sat (forL g B xs ρ) Φ Ψ := by
  have key : ∀ (n i : Nat) (ρ : Env), xs.length - i = n → i ≤ xs.length → Inv i ρ → sat (forL g B (xs.drop i) ρ) Φ Ψ := by
    intro n
    induction n with
    | zero =>
      intro i ρ h1 h2 h3
      have : i = xs.length := by omega
      subst this
      rw [List.drop_length]
      exact hend ρ h3
    | succ n ih =>
      intro i ρ h1 h2 h3
      have hlt : i < xs.length := by omega
      rw [List.drop_eq_getElem_cons hlt]
      have st := step i xs[i] ρ (List.getElem?_eq_getElem hlt) h3
      unfold forL
      rw [sat_bind, sat_of]
      cases hg : g xs[i] ρ with
      | none => rw [hg] at st; exact st
      | some ρ1 =>
        rw [hg, ex_some] at st
        rw [ex_some]
        cases hB : B ρ1 with
        | fail => rw [hB] at st; exact st
        | exc x ρ2 => rw [hB] at st; exact st
        | ok f =>
          rw [hB, sat_ok] at st
          cases f with
          | nx ρ2 => exact ih (i + 1) ρ2 (by omega) hlt st
          | ct ρ2 => exact ih (i + 1) ρ2 (by omega) hlt st
          | bk ρ2 => exact st
          | rt t ρ2 => exact st
  have := key xs.length 0 ρ (by omega) (Nat.zero_le _) h0
  simpa using this
theorem cmp_inv {own : List Nat} {g : GM} {C : BM} {F : EM} {Φ : T × Env → Prop} {Ψ : Exn → Env → Prop} (Inv : Nat → List D → Env → Prop) {xs : List D} {ρ : Env} (hl : xs.length ≤ 1000000) (h0 : Inv 0 [] ρ)
    (step : ∀ i x acc ρ, xs[i]? = some x → acc.length ≤ i → Inv i acc ρ → ex (g x (wipeE own ρ)) fun ρ1 => sat (C ρ1) (fun b => (b.1 = true → sat (F b.2) (fun d => Inv (i + 1) (acc ++ [d.1]) (backE own ρ d.2)) (fun _ _ => False)) ∧ (b.1 = false → Inv (i + 1) acc (backE own ρ b.2))) (fun _ _ => False))
    (hend : ∀ acc ρ, acc.length ≤ xs.length → Inv xs.length acc ρ → Φ (.lst acc, ρ)) : sat (cmpL own g C F xs [] ρ) Φ Ψ := by
  have key : ∀ (n i : Nat) (acc : List D) (ρ : Env), xs.length - i = n → i ≤ xs.length → acc.length ≤ i → Inv i acc ρ → sat (cmpL own g C F (xs.drop i) acc ρ) Φ Ψ := by
    intro n
    induction n with
    | zero =>
      intro i acc ρ h1 h2 h4 h3
      have : i = xs.length := by omega
      subst this
      rw [List.drop_length]
      exact hend acc ρ h4 h3
    | succ n ih =>
      intro i acc ρ h1 h2 h4 h3
      have hlt : i < xs.length := by omega
      rw [List.drop_eq_getElem_cons hlt]
      have st := step i xs[i] acc ρ (List.getElem?_eq_getElem hlt) h4 h3
      unfold cmpL
      rw [sat_bind, sat_of]
      cases hg : g xs[i] (wipeE own ρ) with
      | none => rw [hg] at st; exact st
      | some ρ1 =>
        rw [hg, ex_some] at st
        rw [ex_some, sat_bind]
        cases hB : C ρ1 with
        | fail => rw [hB] at st; exact st.elim
        | exc x ρ2 => rw [hB] at st; exact st.elim
        | ok b =>
          rw [hB, sat_ok] at st
          rw [noX_ok, sat_ok]
          cases hb : b.1 with
          | true =>
            have st := st.1 hb
            simp only [if_true]
            rw [sat_bind]
            cases hF : F b.2 with
            | fail => rw [hF] at st; exact st.elim
            | exc x ρ2 => rw [hF] at st; exact st.elim
            | ok d =>
              rw [hF, sat_ok] at st
              rw [noX_ok, sat_ok, if_pos (by omega)]
              exact ih (i + 1) _ _ (by omega) hlt (by simp; omega) st
          | false =>
            have st := st.2 hb
            simp only [Bool.false_eq_true, if_false]
            exact ih (i + 1) _ _ (by omega) hlt (by omega) st
  have := key xs.length 0 [] ρ (by omega) (Nat.zero_le _) (Nat.zero_le _) h0
  simpa using this
theorem wh_inv {C : BM} {B : SM} {Φ : Fl → Prop} {Ψ : Exn → Env → Prop} (Inv : Nat → Env → Prop) :
    ∀ {n m : Nat} {ρ : Env}, m < n → Inv m ρ →
    (∀ m ρ, Inv m ρ → sat (C ρ) (fun b => (b.1 = true → sat (B b.2) (fun f => match f with | .nx ρ2 => ∃ m', m' < m ∧ Inv m' ρ2 | .ct ρ2 => ∃ m', m' < m ∧ Inv m' ρ2 | .bk ρ2 => Φ (.nx ρ2) | .rt t ρ2 => Φ (.rt t ρ2)) Ψ) ∧ (b.1 = false → Φ (.nx b.2))) Ψ) →
    sat (sWhile n C B ρ) Φ Ψ := by
  intro n
  induction n with
  | zero => intro m ρ h; omega
  | succ n ih =>
    intro m ρ h hi step
    have st := step m ρ hi
    unfold sWhile whL
    rw [sat_bind]
    cases hC : C ρ with
    | fail => rw [hC] at st; exact st
    | exc x ρ2 => rw [hC] at st; exact st
    | ok b =>
      rw [hC, sat_ok] at st
      rw [sat_ok]
      cases hb : b.1 with
      | false => simp only [Bool.false_eq_true, if_false]; exact st.2 hb
      | true =>
        have st := st.1 hb
        simp only [if_true]
        cases hB : B b.2 with
        | fail => rw [hB] at st; exact st
        | exc x ρ2 => rw [hB] at st; exact st
        | ok f =>
          rw [hB, sat_ok] at st
          cases f with
          | nx ρ2 => obtain ⟨m', h1, h2⟩ := st; exact ih (by omega) h2 step
          | ct ρ2 => obtain ⟨m', h1, h2⟩ := st; exact ih (by omega) h2 step
          | bk ρ2 => exact st
          | rt t ρ2 => exact st
end Od
namespace Od
open PySem PySem.Spec L2
open PyProof.Rows hiding St
section
variable {Φ : D → Prop} {ΦB : Bool → Prop} {ΦL : List D → Prop} {ΦM : List D × D → Prop} {ΦI : Int → Prop} {ΦT1 : T1 → Prop}
theorem x_addbi (k : Bool) (j : Int) : ex (fAdd (.bl k) (.int j)) Φ = Φ (.int ((if k = true then (1 : Int) else 0) + j)) := rfl
theorem x_addii (i j : Int) : ex (fAdd (.int i) (.int j)) Φ = Φ (.int (i + j)) := rfl
theorem x_addss (a b : Tx) : ex (fAdd (.str a) (.str b)) Φ = (a.length + b.length ≤ 1000000 ∧ Φ (.str (a ++ b))) := by show ex (if _ then _ else _) _ = _; rw [ex_ite]; rfl
theorem x_addtt (a b : List D) : ex (fAdd (.tup a) (.tup b)) Φ = (a.length + b.length ≤ 1000000 ∧ Φ (.tup (a ++ b))) := by show ex (if _ then _ else _) _ = _; rw [ex_ite]; rfl
theorem x_addll (a b : List D) : ex (fAdd (.lst a) (.lst b)) Φ = (a.length + b.length ≤ 1000000 ∧ Φ (.lst (a ++ b))) := by show ex (if _ then _ else _) _ = _; rw [ex_ite]; rfl
theorem x_lAdd (a b : List D) : ex (lAdd (.lst a) (.lst b)) ΦL = (a.length + b.length ≤ 1000000 ∧ ΦL (a ++ b)) := by show ex (if _ then _ else _) _ = _; rw [ex_ite]; rfl
theorem x_sub (i j : Int) : ex (fSub (.int i) (.int j)) Φ = Φ (.int (i - j)) := rfl
theorem x_mul (i j : Int) : ex (fMul (.int i) (.int j)) Φ = (okMul i j = true ∧ Φ (.int (i * j))) := by show ex (if _ then _ else _) _ = _; rw [ex_ite]; rfl
theorem x_fdiv (i j : Int) : ex (fFdiv (.int i) (.int j)) Φ = ((0 < j ∧ j < 1073741824) ∧ Φ (.int (i / j))) := by show ex (if _ then _ else _) _ = _; rw [ex_ite]; rfl
theorem x_mod (i j : Int) : ex (fMod (.int i) (.int j)) Φ = (0 < j ∧ Φ (.int (i % j))) := by show ex (if _ then _ else _) _ = _; rw [ex_ite]; rfl
theorem x_pow (i j : Int) : ex (fPow (.int i) (.int j)) Φ = ((0 ≤ j ∧ j ≤ 1000000 ∧ i.natAbs < 18446744073709551616) ∧ Φ (.int (i ^ j.toNat))) := by show ex (if _ then _ else _) _ = _; rw [ex_ite]; rfl
theorem x_neg (i : Int) : ex (fNeg (.int i)) Φ = Φ (.int (-i)) := rfl
theorem x_eqi (i j : Int) : ex (fEq (.int i) (.int j)) ΦB = ΦB (decide (i = j)) := rfl
theorem x_eqs (i j : Tx) : ex (fEq (.str i) (.str j)) ΦB = ΦB (decide (i = j)) := rfl
theorem x_eqb (i j : Bool) : ex (fEq (.bl i) (.bl j)) ΦB = ΦB (decide (i = j)) := rfl
theorem x_nei (i j : Int) : ex (fNe (.int i) (.int j)) ΦB = ΦB (!decide (i = j)) := rfl
theorem x_nes (i j : Tx) : ex (fNe (.str i) (.str j)) ΦB = ΦB (!decide (i = j)) := rfl
theorem x_neb (i j : Bool) : ex (fNe (.bl i) (.bl j)) ΦB = ΦB (!decide (i = j)) := rfl
theorem x_lt (i j : Int) : ex (cLt (.int i) (.int j)) ΦB = ΦB (decide (i < j)) := rfl
theorem x_lts (i j : Tx) : ex (cLt (.str i) (.str j)) ΦB = ΦB (decide (i < j)) := rfl
theorem x_le (i j : Int) : ex (cLe (.int i) (.int j)) ΦB = ΦB (decide (i ≤ j)) := rfl
theorem x_gt (i j : Int) : ex (cGt (.int i) (.int j)) ΦB = ΦB (decide (j < i)) := rfl
theorem x_ge (i j : Int) : ex (cGe (.int i) (.int j)) ΦB = ΦB (decide (j ≤ i)) := rfl
theorem x_isN0 : ex (cIsN .non .non) ΦB = ΦB true := rfl
theorem x_isNi (i : Int) : ex (cIsN (.int i) .non) ΦB = ΦB false := rfl
theorem x_isNb (i : Bool) : ex (cIsN (.bl i) .non) ΦB = ΦB false := rfl
theorem x_isNs (i : Tx) : ex (cIsN (.str i) .non) ΦB = ΦB false := rfl
theorem x_isNt (i : List D) : ex (cIsN (.tup i) .non) ΦB = ΦB false := rfl
theorem x_isNl (i : List D) : ex (cIsN (.lst i) .non) ΦB = ΦB false := rfl
theorem x_noN0 : ex (cNotN .non .non) ΦB = ΦB false := rfl
theorem x_noNi (i : Int) : ex (cNotN (.int i) .non) ΦB = ΦB true := rfl
theorem x_noNb (i : Bool) : ex (cNotN (.bl i) .non) ΦB = ΦB true := rfl
theorem x_noNs (i : Tx) : ex (cNotN (.str i) .non) ΦB = ΦB true := rfl
theorem x_noNt (i : List D) : ex (cNotN (.tup i) .non) ΦB = ΦB true := rfl
theorem x_noNl (i : List D) : ex (cNotN (.lst i) .non) ΦB = ΦB true := rfl
theorem x_ixl (ds : List D) (i : Int) : ex (fIdx (.lst ds) (.int i)) Φ = ex (atI ds i) Φ := rfl
theorem x_ixt (ds : List D) (i : Int) : ex (fIdx (.tup ds) (.int i)) Φ = ex (atI ds i) Φ := rfl
theorem x_ixr (ds : List D) (i : Int) : ex (fIdx (.rol ds) (.int i)) Φ = ex (atI ds i) Φ := rfl
theorem x_ixs (s : Tx) (i : Int) : ex (fIdx (.str s) (.int i)) Φ = (s.length ≤ 1000000 ∧ ex (atI s i) fun c => Φ (.str [c])) := by
  show ex (if _ then _ else _) _ = _; rw [ex_ite, ex_map]
theorem x_lens (s : Tx) : ex (fLen [.str s]) Φ = (s.length ≤ 1000000 ∧ Φ (.int s.length)) := by show ex (if _ then _ else _) _ = _; rw [ex_ite]; rfl
theorem x_lenl (s : List D) : ex (fLen [.lst s]) Φ = Φ (.int s.length) := rfl
theorem x_lent (s : List D) : ex (fLen [.tup s]) Φ = Φ (.int s.length) := rfl
theorem x_lenr (s : List D) : ex (fLen [.rol s]) Φ = Φ (.int s.length) := rfl
theorem x_max2 (i j : Int) : ex (fMax [.int i, .int j]) Φ = Φ (.int (max i j)) := rfl
theorem x_min2 (i j : Int) : ex (fMin [.int i, .int j]) Φ = Φ (.int (min i j)) := rfl
theorem x_dm (i j : Int) : ex (fDivmod [.int i, .int j]) Φ = ((0 < j ∧ j < 1073741824) ∧ Φ (.tup [.int (i / j), .int (i % j)])) := by show ex (if _ then _ else _) _ = _; rw [ex_ite]; rfl
theorem x_listl (ds : List D) : ex (fList [.lst ds]) ΦL = ΦL ds := rfl
theorem x_listr (ds : List D) : ex (fList [.rol ds]) ΦL = ΦL ds := rfl
theorem x_listt (ds : List D) : ex (fList [.tup ds]) ΦL = ΦL ds := rfl
theorem x_tupl (ds : List D) : ex (fTuple [.lst ds]) Φ = Φ (.tup ds) := rfl
theorem x_tupt (ds : List D) : ex (fTuple [.tup ds]) Φ = Φ (.tup ds) := rfl
theorem x_cutl (lo hi : Option Int) (ds : List D) : ex (fCut lo hi (.lst ds)) Φ = Φ (.lst (cutD ds lo hi)) := rfl
theorem x_cutt (lo hi : Option Int) (ds : List D) : ex (fCut lo hi (.tup ds)) Φ = Φ (.tup (cutD ds lo hi)) := rfl
theorem x_cutr (lo hi : Option Int) (ds : List D) : ex (fCut lo hi (.rol ds)) Φ = Φ (.lst (cutD ds lo hi)) := rfl
theorem x_cuts (lo hi : Option Int) (s : Tx) : ex (fCut lo hi (.str s)) Φ = (s.length ≤ 1000000 ∧ Φ (.str (cutD s lo hi))) := by show ex (if _ then _ else _) _ = _; rw [ex_ite]; rfl
theorem x_lcutl (lo hi : Option Int) (ds : List D) : ex (lCut lo hi (.lst ds)) ΦL = ΦL (cutD ds lo hi) := rfl
theorem x_lcutr (lo hi : Option Int) (ds : List D) : ex (lCut lo hi (.rol ds)) ΦL = ΦL (cutD ds lo hi) := rfl
theorem x_app (ds : List D) (d : D) : ex (mAppend ds [d]) ΦM = (ds.length < 1000000 ∧ ΦM (ds ++ [d], .non)) := by show ex (if _ then _ else _) _ = _; rw [ex_ite]; rfl
theorem x_sw (a b : Tx) : ex (mSw (.str a) [.str b]) Φ = Φ (.bl (b.isPrefixOf a)) := rfl
theorem x_ew (a b : Tx) : ex (mEw (.str a) [.str b]) Φ = Φ (.bl (b.isSuffixOf a)) := rfl
theorem x_join (a : Tx) (ds : List D) : ex (mJoin (.str a) [.lst ds]) Φ = ex (allStrs ds) fun ys => ((ys.map List.length).sum + ys.length * a.length ≤ 1000000) ∧ Φ (.str (joinT a ys)) := by
  show ex (Option.bind _ _) _ = _; rw [ex_bind]; congr 1; funext ys; rw [ex_ite]; rfl
theorem x_frs (d : D) : ex (frzT (.sh d)) Φ = Φ d := rfl
theorem x_frl (d : List D) : ex (frzT (.lst d)) Φ = Φ (.lst d) := rfl
theorem x_frd (k : List DK) (d : List D) : ex (frzT (.dct k d)) Φ = Φ (.dct k d) := rfl
theorem x_rng1 (j : Int) : ex (rng1 [.int j]) ΦL = (okI j = true ∧ ΦL (rngD 0 j.toNat)) := by show ex (if _ then _ else _) _ = _; rw [ex_ite]; rfl
theorem x_zip2t (a b : List D) : ex (zip2A [.tup a, .tup b]) ΦL = ΦL (zipD a b) := rfl
theorem x_zip2l (a b : List D) : ex (zip2A [.lst a, .lst b]) ΦL = ΦL (zipD a b) := rfl
theorem x_enu (a : List D) : ex (enu1 [.lst a]) ΦL = ΦL (enumD a) := rfl
theorem x_seql (a : List D) : ex (seqD (.lst a)) ΦL = ΦL a := rfl
theorem x_seqr (a : List D) : ex (seqD (.rol a)) ΦL = ΦL a := rfl
theorem x_int (i : Int) : ex (intOf (.int i)) ΦI = ΦI i := rfl
theorem x_bl (b : Bool) : ex (blD (.bl b)) ΦB = ΦB b := rfl
theorem x_gC (a b : T1) : ex (getF [([99, 101, 108, 108, 115], a), ([116, 117, 114, 110], b)] [99, 101, 108, 108, 115]) ΦT1 = ΦT1 a := rfl
theorem x_gT (a b : T1) : ex (getF [([99, 101, 108, 108, 115], a), ([116, 117, 114, 110], b)] [116, 117, 114, 110]) ΦT1 = ΦT1 b := rfl
end
end Od
namespace Od
open PySem PySem.Spec L2
open PyProof.Rows hiding St
/-! ### a machine of rewrites at the root -/
def cps {α : Type} (a : α) (Φ : α → Prop) : Prop := Φ a
def setE (ρ : Env) (i : Nat) (t : Option T) : Option Env := if i < ρ.length then some (ρ.set i t) else none
def nones : Nat → Env
  | 0 => []
  | N + 1 => none :: nones N
def padE : List T → Nat → Env
  | [], N => nones N
  | t :: ts, N => some t :: padE ts (N - 1)
theorem nones_eq : ∀ N : Nat, List.replicate N none = nones N
  | 0 => rfl
  | N + 1 => by rw [List.replicate_succ, nones_eq N]; rfl
theorem padE_eq : ∀ (ts : List T) (N : Nat), ts.map some ++ List.replicate (N - ts.length) none = padE ts N
  | [], N => nones_eq N
  | t :: ts, N => by
    have := padE_eq ts (N - 1)
    show some t :: (ts.map some ++ List.replicate (N - (ts.length + 1)) none) = some t :: padE ts (N - 1)
    rw [← this, Nat.sub_sub, Nat.add_comm 1]
section
variable {Φ : Env → Prop} {x y : Option T} {ρ ρ0 os : Env} {i : Nat}
theorem c_pad0 : cps (padE [] 0) Φ = Φ [] := rfl
theorem c_padn (N : Nat) : cps (padE [] (N + 1)) Φ = cps (padE [] N) fun r => Φ (none :: r) := rfl
theorem c_pads (t : T) (ts : List T) (N : Nat) : cps (padE (t :: ts) (N + 1)) Φ = cps (padE ts N) fun r => Φ (some t :: r) := rfl
theorem ex_setE : ex (setE ρ i y) Φ = (i < ρ.length ∧ Φ (List.set ρ i y)) := by unfold setE; rw [ex_ite]; rfl
theorem k_set0 : ex (setE (x :: ρ) 0 y) Φ = Φ (y :: ρ) := by rw [ex_setE]; simp
theorem k_sets : ex (setE (x :: ρ) (i + 1) y) Φ = ex (setE ρ i y) fun ρ' => Φ (x :: ρ') := by rw [ex_setE, ex_setE]; simp
theorem c_set0 : cps (List.set (x :: ρ) 0 y) Φ = Φ (y :: ρ) := rfl
theorem c_sets : cps (List.set (x :: ρ) (i + 1) y) Φ = cps (List.set ρ i y) fun ρ' => Φ (x :: ρ') := rfl
theorem c_wipe0 : cps (wipeE [] ρ) Φ = Φ ρ := rfl
theorem c_wipes (is : List Nat) : cps (wipeE (i :: is) ρ) Φ = cps (List.set ρ i none) fun ρ' => cps (wipeE is ρ') Φ := rfl
theorem c_back0 : cps (backE [] ρ0 ρ) Φ = Φ ρ := rfl
theorem c_backs (is : List Nat) : cps (backE (i :: is) ρ0 ρ) Φ = cps (List.getD ρ0 i none) fun y => cps (shE y) fun y => cps (List.set ρ i y) fun ρ' => cps (backE is ρ0 ρ') Φ := rfl
theorem c_mask0 : cps (maskE [] ρ) Φ = Φ [] := by cases ρ <;> rfl
theorem c_maskt (md : List Bool) : cps (maskE (true :: md) (x :: ρ)) Φ = cps (maskE md ρ) fun r => Φ (x :: r) := rfl
theorem c_maskf (md : List Bool) : cps (maskE (false :: md) (x :: ρ)) Φ = cps (maskE md ρ) fun r => Φ (none :: r) := rfl
theorem c_putB0 : cps (putB [] os ρ) Φ = Φ ρ := rfl
theorem c_putBv (F : EM) (As : List Arg) : cps (putB (.v F :: As) (x :: os) ρ) Φ = cps (putB As os ρ) Φ := rfl
theorem c_putBi (As : List Arg) : cps (putB (.io i :: As) (x :: os) ρ) Φ = cps (List.set ρ i x) fun ρ' => cps (putB As os ρ') Φ := rfl
end
section
variable {ΦO : Option T → Prop} {ΦD : D → Prop} {ΦT : T → Prop} {ΦL : List D → Prop} {ΦR : List (Tx × T1) → Prop} {x y : Option T} {ρ : Env} {i : Nat} {d : D} {ds : List D} {ks : List DK}
theorem c_getD0 : cps (List.getD (x :: ρ) 0 y) ΦO = ΦO x := rfl
theorem c_getDs : cps (List.getD (x :: ρ) (i + 1) y) ΦO = cps (List.getD ρ i y) ΦO := rfl
theorem c_shE1 : cps (shE (some (.sh d))) ΦO = ΦO (some (.sh d)) := rfl
theorem c_shE0 : cps (shE none) ΦO = ΦO none := rfl
theorem c_shEl : cps (shE (some (.lst ds))) ΦO = ΦO none := rfl
theorem k_lkS0 : ex (lkS (some (.sh d) :: ρ) 0) ΦD = ΦD d := rfl
theorem k_lkSs : ex (lkS (x :: ρ) (i + 1)) ΦD = ex (lkS ρ i) ΦD := rfl
theorem k_lkF0 : ex (lkF (some (.sh d) :: ρ) 0) ΦD = ΦD d := rfl
theorem k_lkF0l : ex (lkF (some (.lst ds) :: ρ) 0) ΦD = ΦD (.lst ds) := rfl
theorem k_lkFs : ex (lkF (x :: ρ) (i + 1)) ΦD = ex (lkF ρ i) ΦD := rfl
theorem k_lkT0 (t : T) : ex (lkT (some t :: ρ) 0) ΦT = ΦT t := rfl
theorem k_lkTs : ex (lkT (x :: ρ) (i + 1)) ΦT = ex (lkT ρ i) ΦT := rfl
theorem k_lkL0 : ex (lkL (some (.lst ds) :: ρ) 0) ΦL = ΦL ds := rfl
theorem k_lkLs : ex (lkL (x :: ρ) (i + 1)) ΦL = ex (lkL ρ i) ΦL := rfl
theorem k_rcd0 (fs : List (Tx × T1)) : ex (rcdOf (some (.rcd fs) :: ρ) 0) ΦR = ΦR fs := rfl
theorem k_rcds : ex (rcdOf (x :: ρ) (i + 1)) ΦR = ex (rcdOf ρ i) ΦR := rfl
theorem k_atH0 : ex (atH (some (.sh d) :: ρ) 0) ΦD = ΦD d := rfl
theorem k_atH0l : ex (atH (some (.lst ds) :: ρ) 0) ΦD = ΦD (.lst ds) := rfl
theorem k_atH0d : ex (atH (some (.dct ks ds) :: ρ) 0) ΦD = ΦD (.dct ks ds) := rfl
theorem k_atHs : ex (atH (x :: ρ) (i + 1)) ΦD = ex (atH ρ i) ΦD := rfl
theorem k_getHv : ex (getH (.val d) ρ) ΦD = ΦD d := rfl
theorem k_getHs : ex (getH (.slot i) ρ) ΦD = ex (atH ρ i) ΦD := rfl
end
section
variable {Ψ : Exn → Env → Prop} {ρ : Env} {Φ : D × Env → Prop} {ΦT : T × Env → Prop} {ΦS : Fl → Prop} {F : EM} {F' G' : OM} {S : SM}
theorem m_eFv (i : Nat) : sat (eFv i ρ) Φ Ψ = ex (lkF ρ i) (fun d => cps (List.set ρ i (some (.sh d))) fun ρ' => Φ (d, ρ')) := s_eFv i
theorem m_tMv (i : Nat) : sat (tMv i ρ) ΦT Ψ = ex (lkT ρ i) (fun t => cps (List.set ρ i none) fun ρ' => ΦT (t, ρ')) := s_tMv i
theorem m_eMut (i : Nat) (m : List D → List D → Option (List D × D)) (Fs : List EM) : sat (eMut i m Fs ρ) Φ Ψ = ex (lkL ρ i) (fun _ => sat (vL Fs ρ) (fun a => ex (lkL a.2 i) fun ds => ex (m ds a.1) fun r => cps (List.set a.2 i (some (.lst r.1))) fun ρ' => Φ (r.2, ρ')) Ψ) := s_eMut i m Fs
theorem m_eCall (f : Fn) (As : List Arg) : sat (eCall f As ρ) ΦT Ψ = (nodupB (iosOf As) = true ∧ sat (aL As ρ) (fun a => ex (mkT As a.1 a.2) fun ts => satO (f ts) (fun t os => cps (putB As os a.2) fun ρ' => ΦT (t, ρ')) (fun x os => cps (putB As os a.2) fun ρ' => Ψ x ρ')) Ψ) := s_eCall f As
theorem m_set (i : Nat) : sat (sSet i F' ρ) ΦS Ψ = sat (F' ρ) (fun a => ex (setE a.2 i (some a.1)) fun ρ' => ΦS (.nx ρ')) Ψ := by rw [s_set]; congr 1; funext a; rw [ex_setE]
theorem m_setV (i : Nat) : sat (sSetV i F ρ) ΦS Ψ = sat (F ρ) (fun a => ex (setE a.2 i (some (.sh a.1))) fun ρ' => ΦS (.nx ρ')) Ψ := by rw [s_setV]; congr 1; funext a; rw [ex_setE]
theorem m_wipe (is : List Nat) : sat (sWipe is S ρ) ΦS Ψ = sat (S ρ) (fun f => match f with | .nx ρ => cps (wipeE is ρ) fun ρ' => ΦS (.nx ρ') | .bk ρ => cps (wipeE is ρ) fun ρ' => ΦS (.bk ρ') | .ct ρ => cps (wipeE is ρ) fun ρ' => ΦS (.ct ρ') | .rt t ρ => ΦS (.rt t ρ)) Ψ := by
  rw [s_wipe]; congr 1; funext f; cases f <;> rfl
theorem m_par (i j : Nat) : sat (sPar i F' j G' ρ) ΦS Ψ = sat (F' ρ) (fun a => rootT a.1 = true ∧ sat (G' a.2) (fun b => rootT b.1 = true ∧ ex (setE b.2 i (some a.1)) fun ρ1 => ex (setE ρ1 j (some b.1)) fun ρ2 => ΦS (.nx ρ2)) Ψ) Ψ := by
  rw [s_par]; congr 1; funext a; congr 1; congr 1; funext b
  rw [and_assoc, ex_setE, and_assoc]
  congr 1; congr 1
  rw [ex_setE]; simp
theorem m_gNm (i : Nat) (d : D) {Φ : Env → Prop} : ex (gNm i d ρ) Φ = ex (setE ρ i (some (.sh d))) Φ := by rw [ex_gNm, ex_setE]
theorem m_sFld (i : Nat) (k : Tx) : sat (sFld i k F ρ) ΦS Ψ = sat (F ρ) (fun a => ex (rcdOf a.2 i) fun fs => ex (getF fs k) fun t => match t with | .sh _ => fs.length < 1000 ∧ cps (setF fs k (.sh a.1)) fun fs' => cps (List.set a.2 i (some (.rcd fs'))) fun ρ' => ΦS (.nx ρ') | _ => False) Ψ := s_sFld i k
theorem m_gfix (i : Nat) (k : Tx) (j : Nat) (d : D) {Φ : Env → Prop} : ex (gFldIx i k j d ρ) Φ = ex (rcdOf ρ i) fun fs => ex (lkS ρ j) fun n => ex (intOf n) fun n => ex (getF fs k) fun t => match t with | .lst ds => (0 ≤ n ∧ n < ds.length) ∧ cps (setF fs k (.lst (ds.set n.toNat d))) fun fs' => cps (List.set ρ i (some (.rcd fs'))) Φ | _ => False := s_gfix i k j d
theorem m_fn (N n : Nat) (md : List Bool) (B : SM) (ts : List T) {Φ : T → Env → Prop} {Ψ : Exn → Env → Prop} : satO (fnOf N n md B ts) Φ Ψ = (ts.length = n ∧ cps (padE ts N) fun ρ => sat (B ρ) (fun f => match f with | .rt t ρ => cps (maskE md ρ) fun r => Φ t r | .nx ρ => cps (maskE md ρ) fun r => Φ (.sh .non) r | _ => False) (fun x ρ => cps (maskE md ρ) fun r => Ψ x r)) := by
  rw [satO_fn]
  by_cases h : ts.length = n
  · subst h
    rw [padE_eq]; rfl
  · simp [h]
variable {ΦR : List (Tx × T1) → Prop}
theorem c_sFC (a b t : T1) : cps (setF [([99, 101, 108, 108, 115], a), ([116, 117, 114, 110], b)] [99, 101, 108, 108, 115] t) ΦR = ΦR [([99, 101, 108, 108, 115], t), ([116, 117, 114, 110], b)] := rfl
theorem c_sFT (a b t : T1) : cps (setF [([99, 101, 108, 108, 115], a), ([116, 117, 114, 110], b)] [116, 117, 114, 110] t) ΦR = ΦR [([99, 101, 108, 108, 115], a), ([116, 117, 114, 110], t)] := rfl
end
/-- an item of a list at a place that is there -/
theorem atI_ok {α : Type} {xs : List α} {i : Int} (h : 0 ≤ i) (h' : i < xs.length) {Φ : α → Prop} (q : ∀ x, xs[i.toNat]? = some x → Φ x) : ex (atI xs i) Φ := by
  unfold atI ixN
  rw [if_pos h, if_pos h']
  show ex (xs[i.toNat]?) Φ
  rw [List.getElem?_eq_getElem (by omega)]
  exact q _ (List.getElem?_eq_getElem (by omega))
theorem map_true {o : Option D} {f : D → Bool} : (o.map f = some true) = ex o (fun d => f d = true) := by cases o <;> simp [ex]
theorem ex_and {o : Option D} {f : D → Prop} {Q : Prop} : (ex o f ∧ Q) = ex o (fun d => f d ∧ Q) := by cases o <;> simp [ex]
theorem m_eBM {Ψ : Exn → Env → Prop} {ρ : Env} {Φ : D × Env → Prop} {A : HM} (t : Ty) (f : D → List D → Option D) (As : List HM) : sat (eBM t f A As ρ) Φ Ψ = sat (A ρ) (fun a => ex (getH a.1 a.2) fun d0 => isTy t d0 = true ∧ sat (hL As a.2) (fun b => ex (getH a.1 b.2) fun d => ex (getL b.1 b.2) fun ds => ex (f d ds) fun r => Φ (r, b.2)) Ψ) Ψ := by
  rw [s_eBM]; congr 1; funext a; rw [map_true, ex_and]
theorem m_tBML {Ψ : Exn → Env → Prop} {ρ : Env} {ΦT : T × Env → Prop} {A : HM} (t : Ty) (f : D → List D → Option (List D)) (As : List HM) : sat (tBML t f A As ρ) ΦT Ψ = sat (A ρ) (fun a => ex (getH a.1 a.2) fun d0 => isTy t d0 = true ∧ sat (hL As a.2) (fun b => ex (getH a.1 b.2) fun d => ex (getL b.1 b.2) fun ds => ex (f d ds) fun r => ΦT (.lst r, b.2)) Ψ) Ψ := by
  rw [s_tBML]; congr 1; funext a; rw [map_true, ex_and]
theorem k_tyS (s : Tx) : (isTy .str (.str s) = true) = True := by simp [isTy]
theorem k_tyL (s : List D) : (isTy .lst (.lst s) = true) = True := by simp [isTy]
theorem k_tyR (s : List D) : (isTy .lst (.rol s) = true) = True := by simp [isTy]
theorem k_tyD (k : List DK) (s : List D) : (isTy .dct (.dct k s) = true) = True := by simp [isTy]
theorem cmp_i {own : List Nat} {g : GM} {C : BM} {F : EM} {Φ : T × Env → Prop} {Ψ : Exn → Env → Prop} (Inv : Nat → List D → Env → Prop) {xs : List D} {ρ : Env} (hl : xs.length ≤ 1000000) (h0 : Inv 0 [] ρ)
    (step : ∀ i x acc ρ, xs[i]? = some x → acc.length ≤ i → Inv i acc ρ → cps (wipeE own ρ) fun ρ0 => ex (g x ρ0) fun ρ1 => sat (C ρ1) (fun b => (b.1 = true → sat (F b.2) (fun d => cps (backE own ρ d.2) fun ρ2 => Inv (i + 1) (acc ++ [d.1]) ρ2) (fun _ _ => False)) ∧ (b.1 = false → cps (backE own ρ b.2) fun ρ2 => Inv (i + 1) acc ρ2)) (fun _ _ => False))
    (hend : ∀ acc ρ, acc.length ≤ xs.length → Inv xs.length acc ρ → Φ (.lst acc, ρ)) : sat (cmpL own g C F xs [] ρ) Φ Ψ := cmp_inv Inv hl h0 step hend
theorem atI_nat' {α : Type} {xs : List α} {k : Nat} (h : k < xs.length) : atI xs (k : Int) = xs[k]? := by
  unfold atI ixN
  rw [if_pos (by omega), if_pos (by omega)]
  show xs[(k : Int).toNat]? = _
  rw [Int.toNat_natCast]
theorem x_at0 {α : Type} (x : α) (l : List α) {Φ : α → Prop} : ex (atI (x :: l) 0) Φ = Φ x := by
  have : atI (x :: l) ((0 : Nat) : Int) = some x := atI_nat' (by simp)
  rw [show (0 : Int) = ((0 : Nat) : Int) from rfl, this]; rfl
theorem x_at1 {α : Type} (x y : α) (l : List α) {Φ : α → Prop} : ex (atI (x :: y :: l) 1) Φ = Φ y := by
  have : atI (x :: y :: l) ((1 : Nat) : Int) = some y := atI_nat' (by simp)
  rw [show (1 : Int) = ((1 : Nat) : Int) from rfl, this]; rfl
theorem x_at2 {α : Type} (x y z : α) (l : List α) {Φ : α → Prop} : ex (atI (x :: y :: z :: l) 2) Φ = Φ z := by
  have : atI (x :: y :: z :: l) ((2 : Nat) : Int) = some z := atI_nat' (by simp)
  rw [show (2 : Int) = ((2 : Nat) : Int) from rfl, this]; rfl
theorem okMul_l {i j : Int} (h : -18446744073709551616 < i) (h' : i < 18446744073709551616) : okMul i j = true := by unfold okMul; simp [h, h']
theorem okMul_r {i j : Int} (h : -18446744073709551616 < j) (h' : j < 18446744073709551616) : okMul i j = true := by unfold okMul; simp [h, h']
end Od
namespace Od
open PySem PySem.Spec L2
open PyProof.Rows hiding St cutD
/-! ### equality of data -/
def dOk (d : D) : Prop := d.ok = true ∧ d.dep ≤ 60
theorem okCmp_of {d e : D} (h : dOk d) (h' : dOk e) : okCmp d e = true := by unfold okCmp; simp [h.1, h.2, h'.1, h'.2]
theorem fEq_lst {a b : List D} (h : dOk (.lst a)) (h' : dOk (.lst b)) : fEq (.lst a) (.lst b) = some (D.eqB (.lst a) (.lst b)) := by
  show (if okCmp _ _ then _ else _) = _
  rw [okCmp_of h h']; rfl
theorem okL_map {α : Type} {f : α → D} : ∀ {xs : List α}, (∀ x ∈ xs, (f x).ok = true) → D.okL (xs.map f) = true
  | [], _ => rfl
  | x :: xs, h => by
    simp only [List.map_cons]
    unfold D.okL
    rw [h x List.mem_cons_self, okL_map (fun y hy => h y (List.mem_cons_of_mem _ hy))]; rfl
theorem depL_map {α : Type} {f : α → D} {k : Nat} : ∀ {xs : List α}, (∀ x ∈ xs, (f x).dep ≤ k) → D.depL (xs.map f) ≤ k
  | [], _ => Nat.zero_le k
  | x :: xs, h => by
    simp only [List.map_cons]
    unfold D.depL
    have h1 := h x List.mem_cons_self
    have h2 := depL_map (k := k) (fun y hy => h y (List.mem_cons_of_mem _ hy))
    omega
theorem dOk_lst {α : Type} {f : α → D} {xs : List α} {k : Nat} (h : ∀ x ∈ xs, (f x).ok = true) (h' : ∀ x ∈ xs, (f x).dep ≤ k) (hk : k < 60) : dOk (.lst (xs.map f)) := by
  refine ⟨by unfold D.ok; exact okL_map h, ?_⟩
  unfold D.dep
  have := depL_map h'
  omega
theorem ok_str {s : Tx} {n : Nat} (h : ∀ c ∈ s, c ≤ n) (hn : n < 1114112) : (D.str s).ok = true := by
  unfold D.ok
  rw [List.all_eq_true]
  intro c hc
  have := h c hc
  simp; omega
theorem dOk_nil : dOk (.lst []) := ⟨by decide, by decide⟩
theorem fEq_nil {a : List D} (h : dOk (.lst a)) {Φ : Bool → Prop} (q : Φ a.isEmpty) : ex (fEq (.lst a) (.lst [])) Φ := by
  rw [fEq_lst h dOk_nil]
  cases a <;> exact q
section
variable {ΦB : Bool → Prop}
theorem x_isi_int_non : ex (kdAny [.int] .non) ΦB = ΦB false := rfl
theorem x_isi_int_bl (b : Bool) : ex (kdAny [.int] (.bl b)) ΦB = ΦB true := rfl
theorem x_isi_int_int (i : Int) : ex (kdAny [.int] (.int i)) ΦB = ΦB true := rfl
theorem x_isi_int_str (s : Tx) : ex (kdAny [.int] (.str s)) ΦB = ΦB false := rfl
theorem x_isi_int_tup (ds : List D) : ex (kdAny [.int] (.tup ds)) ΦB = ΦB false := rfl
theorem x_isi_int_lst (ds : List D) : ex (kdAny [.int] (.lst ds)) ΦB = ΦB false := rfl
theorem x_isi_int_dct (ks : List DK) (ds : List D) : ex (kdAny [.int] (.dct ks ds)) ΦB = ΦB false := rfl
theorem x_isi_bool_non : ex (kdAny [.bool] .non) ΦB = ΦB false := rfl
theorem x_isi_bool_bl (b : Bool) : ex (kdAny [.bool] (.bl b)) ΦB = ΦB true := rfl
theorem x_isi_bool_int (i : Int) : ex (kdAny [.bool] (.int i)) ΦB = ΦB false := rfl
theorem x_isi_bool_str (s : Tx) : ex (kdAny [.bool] (.str s)) ΦB = ΦB false := rfl
theorem x_isi_bool_tup (ds : List D) : ex (kdAny [.bool] (.tup ds)) ΦB = ΦB false := rfl
theorem x_isi_bool_lst (ds : List D) : ex (kdAny [.bool] (.lst ds)) ΦB = ΦB false := rfl
theorem x_isi_bool_dct (ks : List DK) (ds : List D) : ex (kdAny [.bool] (.dct ks ds)) ΦB = ΦB false := rfl
theorem x_isi_str_non : ex (kdAny [.str] .non) ΦB = ΦB false := rfl
theorem x_isi_str_bl (b : Bool) : ex (kdAny [.str] (.bl b)) ΦB = ΦB false := rfl
theorem x_isi_str_int (i : Int) : ex (kdAny [.str] (.int i)) ΦB = ΦB false := rfl
theorem x_isi_str_str (s : Tx) : ex (kdAny [.str] (.str s)) ΦB = ΦB true := rfl
theorem x_isi_str_tup (ds : List D) : ex (kdAny [.str] (.tup ds)) ΦB = ΦB false := rfl
theorem x_isi_str_lst (ds : List D) : ex (kdAny [.str] (.lst ds)) ΦB = ΦB false := rfl
theorem x_isi_str_dct (ks : List DK) (ds : List D) : ex (kdAny [.str] (.dct ks ds)) ΦB = ΦB false := rfl
theorem x_isi_list_non : ex (kdAny [.list] .non) ΦB = ΦB false := rfl
theorem x_isi_list_bl (b : Bool) : ex (kdAny [.list] (.bl b)) ΦB = ΦB false := rfl
theorem x_isi_list_int (i : Int) : ex (kdAny [.list] (.int i)) ΦB = ΦB false := rfl
theorem x_isi_list_str (s : Tx) : ex (kdAny [.list] (.str s)) ΦB = ΦB false := rfl
theorem x_isi_list_tup (ds : List D) : ex (kdAny [.list] (.tup ds)) ΦB = ΦB false := rfl
theorem x_isi_list_lst (ds : List D) : ex (kdAny [.list] (.lst ds)) ΦB = ΦB true := rfl
theorem x_isi_list_dct (ks : List DK) (ds : List D) : ex (kdAny [.list] (.dct ks ds)) ΦB = ΦB false := rfl
theorem x_isi_tuple_non : ex (kdAny [.tuple] .non) ΦB = ΦB false := rfl
theorem x_isi_tuple_bl (b : Bool) : ex (kdAny [.tuple] (.bl b)) ΦB = ΦB false := rfl
theorem x_isi_tuple_int (i : Int) : ex (kdAny [.tuple] (.int i)) ΦB = ΦB false := rfl
theorem x_isi_tuple_str (s : Tx) : ex (kdAny [.tuple] (.str s)) ΦB = ΦB false := rfl
theorem x_isi_tuple_tup (ds : List D) : ex (kdAny [.tuple] (.tup ds)) ΦB = ΦB true := rfl
theorem x_isi_tuple_lst (ds : List D) : ex (kdAny [.tuple] (.lst ds)) ΦB = ΦB false := rfl
theorem x_isi_tuple_dct (ks : List DK) (ds : List D) : ex (kdAny [.tuple] (.dct ks ds)) ΦB = ΦB false := rfl
theorem x_isi_dict_non : ex (kdAny [.dict] .non) ΦB = ΦB false := rfl
theorem x_isi_dict_bl (b : Bool) : ex (kdAny [.dict] (.bl b)) ΦB = ΦB false := rfl
theorem x_isi_dict_int (i : Int) : ex (kdAny [.dict] (.int i)) ΦB = ΦB false := rfl
theorem x_isi_dict_str (s : Tx) : ex (kdAny [.dict] (.str s)) ΦB = ΦB false := rfl
theorem x_isi_dict_tup (ds : List D) : ex (kdAny [.dict] (.tup ds)) ΦB = ΦB false := rfl
theorem x_isi_dict_lst (ds : List D) : ex (kdAny [.dict] (.lst ds)) ΦB = ΦB false := rfl
theorem x_isi_dict_dct (ks : List DK) (ds : List D) : ex (kdAny [.dict] (.dct ks ds)) ΦB = ΦB true := rfl
theorem x_isi_listtuple_non : ex (kdAny [.list, .tuple] .non) ΦB = ΦB false := rfl
theorem x_isi_listtuple_bl (b : Bool) : ex (kdAny [.list, .tuple] (.bl b)) ΦB = ΦB false := rfl
theorem x_isi_listtuple_int (i : Int) : ex (kdAny [.list, .tuple] (.int i)) ΦB = ΦB false := rfl
theorem x_isi_listtuple_str (s : Tx) : ex (kdAny [.list, .tuple] (.str s)) ΦB = ΦB false := rfl
theorem x_isi_listtuple_tup (ds : List D) : ex (kdAny [.list, .tuple] (.tup ds)) ΦB = ΦB true := rfl
theorem x_isi_listtuple_lst (ds : List D) : ex (kdAny [.list, .tuple] (.lst ds)) ΦB = ΦB true := rfl
theorem x_isi_listtuple_dct (ks : List DK) (ds : List D) : ex (kdAny [.list, .tuple] (.dct ks ds)) ΦB = ΦB false := rfl
end
mutual
def gdD : D → Bool
  | .tup ds => gdL ds
  | .lst ds => gdL ds
  | .rol _ => false
  | .dct _ _ => false
  | .exn _ _ _ => false
  | .obj _ _ _ => false
  | .fn _ => false
  | _ => true
def gdL : List D → Bool
  | [] => true
  | d :: ds => gdD d && gdL ds
end
theorem gdL_mem : ∀ {ds : List D}, gdL ds = true → ∀ d ∈ ds, gdD d = true
  | [], _, d, h => by cases h
  | e :: ds, h, d, hd => by
    unfold gdL at h
    rw [Bool.and_eq_true] at h
    rcases List.mem_cons.mp hd with rfl | hd
    · exact h.1
    · exact gdL_mem h.2 d hd
theorem depL_mem : ∀ {ds : List D}, ∀ d ∈ ds, d.dep ≤ D.depL ds
  | [], d, h => by cases h
  | e :: ds, d, hd => by
    unfold D.depL
    rcases List.mem_cons.mp hd with rfl | hd
    · omega
    · have := depL_mem d hd; omega
mutual
def szD : D → Bool
  | .tup ds => decide (ds.length ≤ 1000000) && szL ds
  | .lst ds => decide (ds.length ≤ 1000000) && szL ds
  | _ => true
def szL : List D → Bool
  | [] => true
  | d :: ds => szD d && szL ds
end
theorem szL_mem : ∀ {ds : List D}, szL ds = true → ∀ d ∈ ds, szD d = true
  | [], _, d, h => by cases h
  | e :: ds, h, d, hd => by
    unfold szL at h
    rw [Bool.and_eq_true] at h
    rcases List.mem_cons.mp hd with rfl | hd
    · exact h.1
    · exact szL_mem h.2 d hd
end Od
namespace Od
open PySem PySem.Spec L2
open PyProof.Rows hiding St cutD
/-! ### x[e] as a target, x a list of the variable's own -/
section
variable {X : Cx} {i : Nat} {x : Str} {p1 pos : Pos} {e : Expr} {B : EM} {sl : List Nat}
end
/-! ### xs[::-1] -/
section
variable {X : Cx} {E : WX} {e : Expr} {A : HM} {k : Nat} {p1 p2 p3 pos : Pos}
end
end Od
namespace Od
open PySem PySem.Spec L2 PySem.W PySem
open PyProof.Rows hiding St cutD
/-! ### min of a list of pairs of ints -/
end Od
namespace Od
open PySem PySem.Spec L2
open PyProof.Rows hiding St cutD
section
variable {Ψ : Exn → Env → Prop} {ρ : Env} {ΦT : T × Env → Prop} {ΦL : List D → Prop} {ΦM : List D × D → Prop} {ΦB : Bool → Prop} {A : HM} {F : EM}
theorem s_iStr {Φ : List D × Env → Prop} : sat (iStrD F ρ) Φ Ψ = sat (F ρ) (fun a => match a.1 with | .str s => Φ (s.map fun c => .str [c], a.2) | _ => False) Ψ := by
  unfold iStrD; rw [sat_bind]; congr 1; funext a; cases a.1 <;> rfl
theorem s_iTup {Φ : List D × Env → Prop} : sat (iTupD F ρ) Φ Ψ = sat (F ρ) (fun a => match a.1 with | .tup ds => Φ (ds, a.2) | _ => False) Ψ := by
  unfold iTupD; rw [sat_bind]; congr 1; funext a; cases a.1 <;> rfl
end
theorem inL_strs (s : Tx) (ss : List Tx) : inL (.str s) (ss.map .str) = some (ss.contains s) := by
  unfold inL
  have h : ((D.str s).flat && (ss.map D.str).all D.flat) = true := by simp [D.flat]
  rw [if_pos h]
  congr 1
  induction ss with
  | nil => rfl
  | cons x xs ih =>
    have h2 : ((D.str s).flat && (xs.map D.str).all D.flat) = true := by simp [D.flat]
    simp only [List.map_cons, List.any_cons, List.contains_cons, ih h2]
    congr 1
    simp only [D.flatEq]
    exact BEq.comm
theorem in_strs (s : Tx) (ss : List Tx) {ΦB : Bool → Prop} : ex (cIn (.str s) (.lst (ss.map .str))) ΦB = ΦB (ss.contains s) := by
  have : cIn (.str s) (.lst (ss.map .str)) = inL (.str s) (ss.map .str) := by
    cases s with
    | nil => rfl
    | cons c r => cases r <;> rfl
  rw [this, inL_strs]; rfl
theorem notin_strs (s : Tx) (ss : List Tx) {ΦB : Bool → Prop} : ex (cNotIn (.str s) (.lst (ss.map .str))) ΦB = ΦB (!ss.contains s) := by
  unfold cNotIn
  rw [ex_map, in_strs]
end Od
namespace Od
open PySem PySem.Spec L2
open PyProof.Rows hiding St cutD
/-! ### dict(xs) of a list of pairs of unlike keys -/
def keyD : D → Option DK
  | .int i => some (.inl i)
  | .str s => some (.inr s)
  | _ => none
section
variable {K : PySem.W.Frag} {P H : Hp}
theorem keyD_den {d : D} {k : DK} {v : V} (h : keyD d = some k) (l : Den K P d v) : v = kV (kK k) := by
  cases d <;> simp only [keyD, Option.some.injEq, reduceCtorEq] at h <;> subst h <;> unfold Den at l <;> exact l
theorem putK_new {kvs : List (Key × V)} {k : Key} {v : V} (h : k ∉ kvs.map Prod.fst) : putK kvs k v = kvs ++ [(k, v)] := by
  unfold putK
  rw [if_neg]
  intro z
  obtain ⟨p, hp, e⟩ := List.any_eq_true.mp z
  exact h (List.mem_map.mpr ⟨p, hp, by simpa using e⟩)
theorem mergeK_new : ∀ (more kvs : List (Key × V)), ((kvs ++ more).map Prod.fst).Nodup → mergeK kvs more = kvs ++ more
  | [], kvs, _ => by simp [mergeK]
  | p :: more, kvs, h => by
    show mergeK (putK kvs p.1 p.2) more = _
    have hn : p.1 ∉ kvs.map Prod.fst := fun z => by
      rw [List.map_append, List.nodup_append] at h
      exact h.2.2 _ z _ (by simp) rfl
    rw [putK_new hn, mergeK_new more (kvs ++ [(p.1, p.2)]) (by simpa using h)]
    simp
end
/-! ### a statement that no run comes to -/
/-! ### reading a dict of texts -/
theorem kLook_strs (ns : List Tx) (vs : List D) (s : Tx) : kLook (ns.map .inr) vs (.inr s) = ((ns.zip vs).find? fun p => decide (p.1 = s)).map Prod.snd := by
  unfold kLook
  rw [List.zip_map_left, List.find?_map, Option.map_map]
  congr 1
  refine congrArg (fun f => List.find? f (ns.zip vs)) ?_
  funext p
  simp
theorem in_dct (s : Tx) (ns : List Tx) (vs : List D) {ΦB : Bool → Prop} : ex (cIn (.str s) (.dct (ns.map .inr) vs)) ΦB = ΦB (ns.contains s) := by
  have : cIn (.str s) (.dct (ns.map .inr) vs) = some (ns.contains s) := by
    have : cIn (.str s) (.dct (ns.map .inr) vs) = some ((ns.map Sum.inr).any fun k => decide ((k : DK) = .inr s)) := by
      cases s with
      | nil => rfl
      | cons c r => cases r <;> rfl
    rw [this]
    congr 1
    clear this
    induction ns with
    | nil => rfl
    | cons x xs ih =>
      simp only [List.map_cons, List.any_cons, List.contains_cons]
      rw [ih]
      congr 1
      by_cases h : x = s
      · subst h; rw [decide_eq_true rfl, beq_self_eq_true]
      · rw [decide_eq_false (fun z => h (Sum.inr.inj z)), beq_false_of_ne (fun z => h z.symm)]
  rw [this]; rfl
theorem notin_dct (s : Tx) (ns : List Tx) (vs : List D) {ΦB : Bool → Prop} : ex (cNotIn (.str s) (.dct (ns.map .inr) vs)) ΦB = ΦB (!ns.contains s) := by
  unfold cNotIn
  rw [ex_map, in_dct]
end Od
namespace Od
open PySem PySem.Spec L2
open PyProof.Rows hiding St cutD
/-! ### s.startswith(t, at) -/
end Od
namespace Od
open PySem PySem.Spec L2
open PyProof.Rows hiding St cutD
/-! ### exceptions of the program's own classes -/
/-- what the written part says of such a class -/
structure ErrC (K : PySem.W.Frag) (C : Addr) : Prop where
  o : OexC K C
  ga : PySem.W.findIn K (.ref C) "__getattribute__" = some (some (.builtin "BaseException.__getattribute__"))
  gg : PySem.W.findIn K (.ref C) "__getattr__" = some none
  hd : PySem.W.hasDictIn K C = true
  ca : PySem.W.findIn K (.ref C) "__class__" = some (some (.builtin "object.__class__"))
  cm : PySem.W.mroIn K C (.type "object") = some true
structure ObjCls (K : PySem.W.Frag) : Prop where
  cg : PySem.W.specialIn K (.builtin "object.__class__") "__get__" = some (some (.builtin "getset_descriptor.__get__"))
  ct : PySem.W.takesIn K (.builtin "object.__class__") = some true
def subE (x y : Tx) : Bool := decide (x = y) || decide (y = [79, 100, 100, 69, 114, 114, 111, 114]) || decide (y = [86, 97, 108, 117, 101, 69, 114, 114, 111, 114])
/-- the classes that are raised (rs) and asked for (ts) -/
structure Errs (K : PySem.W.Frag) (mg : Str → Option Value) (rs ts fl : List Tx) : Prop where
  at_ : ∀ x ∈ rs, ∃ C, Top K x C ∧ mg (sT x) = some (.ref C) ∧ ErrC K C
  ask : ∀ y ∈ ts, ∃ D, Top K y D ∧ mg (sT y) = some (.ref D) ∧ PySem.W.subIn K (.ref D) (.type "BaseException") = some true ∧ PySem.W.typeIn K (.ref D) = some (.type "type") ∧ PySem.W.hasDictIn K D = true
  sub : ∀ x ∈ rs, ∀ y ∈ ts, ∀ C D, Top K x C → Top K y D → PySem.W.subIn K (.ref C) (.ref D) = some (subE x y)
  ve : ∀ x ∈ rs, ∀ C, Top K x C → PySem.W.subIn K (.ref C) (.type "ValueError") = some true
  nf : ∀ x ∈ rs, ∀ f ∈ fl, ∀ C, Top K x C → PySem.W.findIn K (.ref C) (sT f) = some none
  oc : ObjCls K
theorem top_inj {K : PySem.W.Frag} {x : Tx} {a b : Addr} (h : Top K x a) (h' : Top K x b) : a = b := by
  unfold Top at h h'
  rw [h] at h'
  cases h'; rfl
theorem own_typed {K : PySem.W.Frag} {D : Addr} (h2 : PySem.W.hasDictIn K D = true) (h1 : PySem.W.typeIn K (.ref D) = some (.type "type")) : ((PySem.W.clsIn K D).isSome && PySem.W.typeIn K (.ref D) == some (.type "type")) = true := by
  obtain ⟨cd, hc, _⟩ := PySem.W.any_some h2
  rw [hc, h1]; rfl
theorem Errs.kit {K : PySem.W.Frag} {mg : Str → Option Value} {rs ts fl : List Tx} (S : Errs K mg rs ts fl) {x y : Tx} (hx : x ∈ rs) (hy : y ∈ ts) {C D : Addr} (tx : Top K x C) (ty : Top K y D) : PySem.W.kitOne K (.ref C) (.ref D) = some (subE x y) := by
  have e := S.sub x hx y hy C D tx ty
  unfold PySem.W.kitOne
  by_cases q : (Value.ref C == Value.ref D) = true
  · rw [if_pos q]
    obtain ⟨D', h0, _, h1, h2, h3⟩ := S.ask y hy
    obtain rfl := top_inj h0 ty
    have : C = D' := Value.ref.inj (beq_iff_eq.mp q)
    subst this
    rw [← e]
    obtain ⟨C', g0, _, g⟩ := S.at_ x hx
    obtain rfl := top_inj g0 tx
    obtain ⟨nm, qn, N, bs, bm, sn, sub, ab, col, dd, k0, k1, k2, k3, k5, hC, hbm⟩ := g.o.cls
    have hcl : PySem.W.clsIn K C' = some { name := nm, bases := bs, mro := .ref C' :: bm, ns := N, qualname := qn, hasDict := true, slotNames := sn, subclasses := sub, abstract := ab, collection := col, hasDel := false } := by unfold PySem.W.clsIn; rw [hC] <;> rfl
    show some true = PySem.W.mroIn K C' (.ref C')
    unfold PySem.W.mroIn
    rw [hcl]
    simp
  · rw [if_neg q]
    obtain ⟨D', h0, _, h1, h2, h3⟩ := S.ask y hy
    obtain rfl := top_inj h0 ty
    show (if _ then _ else _) = _
    rw [if_pos (own_typed h3 h2)]
    exact e
theorem Errs.exm {K : PySem.W.Frag} {mg : Str → Option Value} {rs ts fl : List Tx} (S : Errs K mg rs ts fl) {x y : Tx} (hx : x ∈ rs) (hy : y ∈ ts) {C D : Addr} (tx : Top K x C) (ty : Top K y D) : PySem.W.exmOne K (.ref C) (.ref D) = some (subE x y) := by
  obtain ⟨D', h0, _, h1, h2, h3⟩ := S.ask y hy
  obtain rfl := top_inj h0 ty
  unfold PySem.W.exmOne
  rw [if_pos (by rw [h1]; rfl)]
  show (if _ then _ else _) = _
  rw [if_pos (own_typed h3 h2)]
  exact S.sub x hx y hy C D' tx ty
theorem Errs.kitV {K : PySem.W.Frag} {mg : Str → Option Value} {rs ts fl : List Tx} (S : Errs K mg rs ts fl) {x : Tx} (hx : x ∈ rs) {C : Addr} (tx : Top K x C) : PySem.W.kitOne K (.ref C) (.type "ValueError") = some true := by
  unfold PySem.W.kitOne
  by_cases q : (Value.ref C == Value.type "ValueError") = true
  · rw [if_pos q]
  · rw [if_neg q]
    show (if PySem.W.kitMeta "ValueError" = true then PySem.W.subIn K (.ref C) (.type "ValueError") else none) = _
    rw [if_pos (by decide +kernel)]
    exact S.ve x hx C tx
/-! ### OddError.__init__(self, ..), read off the class -/
section
variable {X : Cx} {e : Expr} {es : List Expr} {ta : TA} {x : Str} {O : Addr} {mc : Value} {p1 p2 pos : Pos}
theorem pe_oinit {pl : Sem Bool} (hg : Gl X x) (hm : X.mg x = some (.ref O)) (sg : PySem.W.specialIn X.K (.ref O) "__getattribute__" = some (some (.builtin "type.__getattribute__"))) (rd : PySem.W.readsIn X.K O mc = true)
    (fi : PySem.W.findCls X.K (.ref O) mc "__init__" = some (.val (.builtin "ValueError.__init__"))) (ha : PA X (e :: es) ta)
    (hc : eval (.Call (.Attribute (.Name x p1) "__init__" p2) (e :: es) [] pos) X.env = (do
      let ov ← eval (.Name x p1) X.env
      standAt p2.atName
      let (f, first) ← holding [ov] (getMethod ov "__init__" pl)
      callWith pos f first (backTo pos (starEach (e :: es) X.env)) (backToKw pos (keywordEach [] X.env))) := by rfl)
    (hdb : (x == ("__debug__" : Str)) = false := by decide)
    (he : starEach (e :: es) X.env = (false, eval e X.env) :: starEach es X.env := by rfl) (hpl : (backTo pos (starEach es X.env)).any (·.1) = false := by rfl) :
    PE X (.Call (.Attribute (.Name x p1) "__init__" p2) (e :: es) [] pos) (tVeI X.K ta) := by
  refine ⟨fun pins s σ H Q I h => ?_⟩
  refine PySem.W.methodCall_KW (ld_glob I hg hm ?_ hdb) hc
  refine PySem.W.method_cls I.kIn sg (PySem.W.cls_value I.kIn rd fi (by decide +kernel) ?_)
  show wpAny _ _ (callWith pos (Value.builtin "ValueError.__init__") [] (backTo pos (starEach (e :: es) X.env)) []) _ _ _
  refine PyProof.Rows.callWith_method1 (thn (ha.run pos pins _ σ H _ (I.tok _) h) fun us s1 ⟨vs, H1, I1, r1, a, C, ws, ev, hl, T, ea, q⟩ => ?_) he hpl
  subst ev
  cases r1 with
  | @cons _ u0 _ ur ra rw' =>
    obtain rfl : u0 = Value.ref a := ra
    have hlen : ur.length ≤ sizeLine := by
      rw [← Paired.length rw', sizeLine_eq]
      omega
    exact oinit_ok T I1 ea hlen fun s' J => ⟨.non, H1, J, rfl, q⟩
end
/-- __init__(self, f) of such a class -/
def spInit (K : PySem.W.Frag) (C : Addr) (f : Str) : Sp := fun vs H Q _ => ∃ (a : Addr) (v : V), vs = [.ref a, v] ∧ OexC K C ∧ PySem.W.findIn K (.ref C) f = some none ∧ H a = some (exo a C none) ∧
  ∀ dx, H dx = none → dx ≠ a → Q .non (upd (upd H dx (exd dx [(f, v)])) a (exo a C (some dx)))
/-- a class that is made with its own __init__, its field f -/
structure MkX (P : Program) (w : World) (K : PySem.W.Frag) (mg : Str → Option Value) (base : Heap) (x f : Tx) : Prop where
  ex : ∃ (C fI : Addr) (fd : FuncData) (ps : List Str), mg (sT x) = some (.ref C) ∧ OexC K C ∧ PySem.W.findIn K (.ref C) (sT f) = some none ∧ PySem.W.findIn K (.ref C) "__init__" = some (some (.ref fI)) ∧ PySem.W.typeIn K (.ref fI) = some (.type "function") ∧
    FnOk P w K mg base (L2.CX P w) 1 fI fd ps (spInit K C (sT f)) ∧ Binds K fd ps []
section
variable {P : Program} {w : World} {K : PySem.W.Frag} {mg : Str → Option Value} {base : Heap}
/-- the body: X.__init__(self, '..'); self.f = f -/
def tInit (K : PySem.W.Frag) (m f : Str) : TS := tSeq (tDrop (tVeI K (tCons (tVar 0) (tCons (tC (.str m)) tNil)))) (tOst K f (tVar 0) (tVar 1))
theorem init_fn {qual a m f : Str} {st : Stmt} {fI C : Addr} {fd : FuncData} (F : Fun K "__init__" qual st fI fd) (S : FnScope ["self", a] ["self", a] (defScope st))
    (hB : ∀ (cdv : Value) (A : Around) (outer : List PySem.Env) (s : Shared) (H : Hp) (E : XK), PSs (cxOf (L2.CX P w) P w K mg base ["self", a] qual (defScope st) fI cdv A outer s H E) (defBody st) (tInit K m f)) :
    FnOk P w K mg base (L2.CX P w) 1 fI fd ["self", a] (spInit K C f) := by
  refine F.okX S (fun vs H Q E h => ?_) (fun cdv A outer s H vs Q E hr h => ⟨_, hB cdv A outer s H E, ?_⟩)
  · obtain ⟨b, v, rfl, _⟩ := h; rfl
  · obtain ⟨b, v, rfl, T, hn, hb, q⟩ := h
    refine ⟨_, rfl, ?_⟩
    refine ⟨b, C, [.str m], rfl, by simp, T, hb, ?_⟩
    refine ⟨_, rfl, _, rfl, b, C, rfl, T, hn, .inl ⟨hb, fun dx hd hne => q dx hd hne⟩⟩
theorem MkX.mk' {x f : Tx} {a : Str} {fI C : Addr} {fd : FuncData} (hm : mg (sT x) = some (.ref C)) (o : OexC K C) (hn : PySem.W.findIn K (.ref C) (sT f) = some none) (hi : PySem.W.findIn K (.ref C) "__init__" = some (some (.ref fI))) (ht : PySem.W.typeIn K (.ref fI) = some (.type "function"))
    (F : FnOk P w K mg base (L2.CX P w) 1 fI fd ["self", a] (spInit K C (sT f))) (hb : Binds K fd ["self", a] []) : MkX P w K mg base x f := ⟨C, fI, fd, _, hm, o, hn, hi, ht, F, hb⟩
end
/-- raise X(e) -/
def sRaise1 (x f : Tx) (F : EM) : SM := fun ρ => F ρ >>= fun a => .exc ⟨x, [(f, a.1)]⟩ a.2
section
variable {X : Cx} {E : WX} {md : List Bool} {e : Expr} {F : EM} {x f : Tx} {n : Str} {p pos pos2 : Pos} {k : Nat}
theorem al_xd {P H H2 : Hp} {a d : Addr} {v : V} {f : Str} {C : Addr} (s : Same P H) (na : H a = none) (nd : H d = none) (hne : d ≠ a) (e : H2 = upd (upd (upd H a (exo a C none)) d (exd d [(f, v)])) a (exo a C (some d))) :
    upd (del H2 a) d (.xd [(f, v)]) = upd H d (.xd [(f, v)]) := by
  subst e
  funext b
  by_cases hb : b = d
  · subst hb; rw [upd_same, upd_same]
  · rw [upd_ne hb, upd_ne hb]
    by_cases ha : b = a
    · subst ha; rw [del_same]; exact na.symm
    · rw [del_ne ha, upd_ne ha, upd_ne hb, upd_ne ha]
theorem sd_raise1 (M : MkX X.prog X.w X.K X.mg X.base x f) (hnm : n = sT x) (hr : RoomG 2 X.A) (hc : X.calm = true) (tk : Takes X E) (hg : Gl X n) (ha : EV X E e F)
    (hdb : (n == ("__debug__" : Str)) = false := by decide) (he : starEach [e] X.env = (false, eval e X.env) :: starEach [] X.env := by rfl) (hpl : (backTo pos (starEach [] X.env)).any (·.1) = false := by rfl) :
    SD X E md (.Raise (some (.Call (.Name n p) [e] [] pos)) none pos2) (sRaise1 x f F) := by
  subst hnm
  obtain ⟨C, fI, fd, ps, hm, o, hn, hi, ht, F1, hb⟩ := M.ex
  exact PS.imp (ps_raise hc tk (pmk_oex o hi ht F1 hr.toRoom hb .nil (passes_call (E := fun _ _ _ => False) tk fun _ _ _ _ z => z.elim) hg hm (pa_cons ha pa_nil he) hdb he hpl)) fun D σ H ⟨P, W, ρ, w, g⟩ =>
    ⟨P, W, ρ, w, (GoS.val g).mono fun v H1 ⟨P1, W1, a, s1, ⟨w1, d1⟩, g1⟩ => by
      refine ⟨by simp, fun b nb => ⟨b, v, rfl, o, hn, upd_same, fun dx nd hne => ⟨rfl, dx, [(sT f, v)], upd_same, ?_, ?_, ?_⟩⟩⟩
      · rw [upd_ne hne, upd_same]
      · rw [upd_ne hne] at nd; exact nd
      · rw [upd_ne hne] at nd
        rw [al_xd w1.same nb nd hne rfl]
        have al := Al.new (o := HO.xd [(sT f, v)]) w1.same nd
        exact g1 (.ref C) (some dx) σ _ W1 _ (al.step W1) (w1.al al) (Kp.refl md σ) ⟨C, hm, rfl, .inr ⟨f, a.1, dx, v, rfl, rfl, upd_same, upd_same, Den.mono al.2.1 _ _ d1⟩⟩⟩
end
end Od
namespace Od
open PySem PySem.Spec L2
open PyProof.Rows hiding St cutD
/-! ### a caught exception becomes a tracked thing -/
section
variable {X : Cx} {pins : List (Addr × Obj)} {σ : St} {H : Hp} {s sI : Shared} {a : Addr}
theorem adopt {oe : Obj} {us : Array Value} {cls : Value} {d : Option Addr} (hex : X.ex = []) (J : Inv X pins σ H sI) (S : Inv X pins σ H s) (na : H a = none) (ha : s.heap.get? a = some oe) (hd : oe.data = .fields us) (hz : Zc cls d oe) (old : sI.heap.get? a = none) (nL : a ≠ X.env.locals) :
    Inv X pins σ (upd H a (ExnO a cls d)) s := by
  refine ⟨S.ok, S.os, S.bare, ⟨S.base.keep, S.base.slot, fun b o e n hx => ?_, S.base.there, fun b xs e => ?_, fun b o u e => ?_, fun b ps e => ?_⟩, S.loc, S.cell, ?_, fun x c e => ?_, fun p hp => ?_, fun b o e => ?_, S.len⟩
  · have hb : b ≠ a := fun z => by
      subst z
      obtain ⟨o', e'⟩ := J.base.there b o e (by rw [hex]; exact List.not_mem_nil)
      rw [old] at e'; cases e'
    exact (upd_ne hb).trans (S.base.free b o e n hx)
  · have q := S.base.tups b xs e
    exact (upd_ne (ne_of_none q na)).trans q
  · have q := S.base.frzs b o u e
    exact (upd_ne (ne_of_none q na)).trans q
  · obtain ⟨more, q⟩ := S.base.tbls b ps e
    exact ⟨more, (upd_ne (ne_of_none q na)).trans q⟩
  · exact (upd_ne (Ne.symm nL)).trans S.free
  · have hc : c ≠ a := fun z => by
      subst z
      obtain ⟨v, o, e1, e2⟩ := S.cell x c e
      all_goals (rw [ha] at e1; cases e1; rw [hd] at e2; cases e2)
    exact (upd_ne hc).trans (S.freeC x c e)
  · obtain ⟨e1, e2, e3⟩ := S.pin p hp
    have hpa : p.1 ≠ a := fun z => by
      have f1 := (J.pin p hp).1
      rw [z, old] at f1; cases f1
    exact ⟨e1, (upd_ne hpa).trans e2, e3⟩
  · by_cases hb : b = a
    · subst hb
      rw [upd_same] at e
      cases e
      exact ⟨⟨oe, us, ha, hz, hd⟩, ⟨_, ha⟩, fun h1 h2 z k => by
        obtain ⟨o1, u1, q, r⟩ := z
        exact ⟨o1, u1, k _ q, r⟩⟩
    · rw [upd_ne hb] at e
      exact (S.hok b o e).stay (fun c v _ q => q) (fun c q => (upd_ne (ne_of_none q na)).trans q) fun c xs q => (upd_ne (ne_of_none q na)).trans q
theorem to_suite (I : Inv X pins σ H s) : Inv (X.suite a (X.pn ++ pins)) [] σ H s where
  ok := I.ok.suite _ _
  os := I.os
  bare := I.bare
  base := I.base
  loc := I.loc
  cell := I.cell
  free := I.free
  freeC := I.freeC
  pin := fun p hp => I.pin p (by simpa using hp)
  hok := I.hok
  len := I.len
theorem of_suite {pn' : List (Addr × Obj)} (I : Inv (X.suite a (X.pn ++ pins)) pn' σ H s) (ok : X.Ok) : Inv X pins σ H s where
  ok := ok
  os := I.os
  bare := I.bare
  base := I.base
  loc := I.loc
  cell := I.cell
  free := I.free
  freeC := I.freeC
  pin := fun p hp => I.pin p (List.mem_append_left pn' hp)
  hok := I.hok
  len := I.len
/-- what is in the air over this frame lies at an address of its own -/
theorem own_addr {B h : Heap} {cls : Value} {d : Option Addr} (hs : X.stack = X.env :: X.outer) (hf : X.env.frame = some X.env.locals) (nb : ∀ b o, sI.heap.get? b = some o → b ∉ frs X.stack → B.get? b = some o)
    (fl : HandSPX.FlyingZ B (X.env :: X.outer) a (Zc cls d) h) : (∃ oe us, h.get? a = some oe ∧ Zc cls d oe ∧ oe.data = .fields us) ∧ sI.heap.get? a = none ∧ a ≠ X.env.locals ∧ a ∉ X.fs := by
  obtain ⟨_, ground, ff, oe, us, _, _, _, g, z, f, _⟩ := fl
  have out : a ∉ frs (X.env :: X.outer) := fun hm => by
    obtain ⟨_, o', g', nf⟩ := ff.mem hm
    rw [g] at g'; cases g'
    exact nf us f
  refine ⟨⟨oe, us, g, z, f⟩, ?_, fun q => out (List.mem_filterMap.mpr ⟨X.env, List.mem_cons_self, by rw [hf, q]⟩), fun hm => ?_⟩
  · cases q : sI.heap.get? a with
    | none => rfl
    | some o =>
      have w := nb a o q (by rw [hs]; exact out)
      rw [ground] at w; cases w
  · obtain ⟨e, he, q⟩ := List.mem_filterMap.mp hm
    exact out (List.mem_filterMap.mpr ⟨e, List.mem_cons_of_mem _ he, q⟩)
end
/-- what is asked of an exception of the body: the clause takes it -/
def wTk (K : PySem.W.Frag) (c : Value) (i : Nat) (ts : TS) (D : Ends) : WX := fun cls d σ H => PySem.W.exmOne K cls c = some true ∧
  ∀ a, H a = none → ts ⟨fun σ' H' => D.nx (σ'.set i none) H', D.rt, fun σ' H' => D.bk (σ'.set i none) H', fun σ' H' => D.ct (σ'.set i none) H'⟩ (σ.set i (some (.ref a))) (upd H a (ExnO a cls d))
section
variable {X : Cx} {x n : Str} {c : Value} {i : Nat} {body : List Stmt} {b₀ : Stmt} {suite : List Stmt} {np pos pos' : Pos} {tb : WX → TS} {ts : TS}
/-- how a body's end is seen from without -/
theorem sp_untry {pins : List (Addr × Obj)} {D : Ends} {f : Flow} {s1 : Shared} {E : Value → Shared → Prop} {xe : Value → Shared → Prop} (ok : X.Ok) (q : SP (X.tr (X.pn ++ pins) xe) [] D f s1) :
    match (generalizing := false) f with
    | .next => wpAny (model X.prog X.w) X.A (execs [] X.env) (SP X pins D) E s1
    | f => SP X pins D f s1 := by
  cases f with
  | next => obtain ⟨a, b, J, r⟩ := q; exact wpAny_execs_nil ⟨a, b, J.ofTry ok, r⟩
  | brk => obtain ⟨a, b, J, r⟩ := q; exact ⟨a, b, J.ofTry ok, r⟩
  | cont => obtain ⟨a, b, J, r⟩ := q; exact ⟨a, b, J.ofTry ok, r⟩
  | ret u => obtain ⟨v, a, b, J, r⟩ := q; exact ⟨v, a, b, J.ofTry ok, r⟩
theorem ps_tryT (hs : X.stack = X.env :: X.outer) (hf : X.env.frame = some X.env.locals) (hex : X.ex = []) (hN : X.N.Nodup) (hi : X.N[i]? = some n) (hl : X.env.kindOf n = some .local) (hc : Gl X x) (hm : X.mg x = some c) (hdb : (x == ("__debug__" : Str)) = false)
    (hb : ∀ (W : WX) (pn : List (Addr × Obj)) (xe : Value → Shared → Prop), Takes (X.tr pn xe) W → PassesOwn (model X.prog X.w) X.A X.env xe → PSs (X.tr pn xe) body (tb W)) (hsu : ∀ (a : Addr) (pn : List (Addr × Obj)), PSs (X.suite a pn) (b₀ :: suite) ts) :
    PS X (.Try body [.ExceptHandler (some (.Name x np)) (some n) (b₀ :: suite) pos'] [] [] pos) (fun D σ H => tb (wTk X.K c i ts D) D σ H) := ⟨fun pins s σ H D I h => by
  have ok := I.ok
  have hfr : X.A.frames = some (X.env :: X.outer) := ok.frames.trans (by rw [hs])
  refine wpAny_Try_except (wpAny_mono ((hb (wTk X.K c i ts D) (X.pn ++ pins) _ ?tk PassesOwn.looking).run [] s σ H D (I.toTry _) h) (fun f s1 q => sp_untry ok q) (fun _ _ z => z))
  rintro u s' ⟨a, B, sI, ps, σ', H', cls, d, rfl, J', nb, up, sky, na, os, ag, hx, hyes⟩
  have J : Inv X pins σ' H' sI := J'.ofTry ok
  rw [hs] at sky
  refine Sky.land (L := X.env.locals) Zc.steady hfr hf sky fun h3 fl up3 => ?_
  have J3 : Inv X pins σ' H' { s' with heap := h3 } := J.landed nb fl.1 (up.trans up3) os ag
  obtain ⟨⟨oe, us, g, z, fd⟩, old, nL, nF⟩ := own_addr hs hf nb fl
  have S3 := J3.suite g fd na nL nF
  refine wpAny_handleBy_cons (codeAny_handlers_test ?_) (fun q => by cases q)
  refine ld_glob (X := X.suite a ((a, oe) :: (X.pn ++ pins))) S3 hc hm ?_ hdb
  refine (PySem.W.exm_one (M := model X.prog X.w) J3.kIn (fun _ _ _ _ k q => wpAny_typeOf_ref (k _ _ g) (by rw [z.1]; exact q)) hx).here ?_
  refine codeAny_handlers_suite_as (HandSPX.lands_againZ fl fun h4 fl4 up4 => ?_)
  obtain ⟨⟨o4, u4, g4, z4, f4⟩, _⟩ := own_addr hs hf nb fl4
  have L4 : Inv X pins σ' H' { s' with heap := h4 } := J.landed nb fl4.1 (up.trans (up3.trans up4)) os ag
  have T4 := to_suite (a := a) (adopt hex J L4 na g4 f4 z4 old nL)
  refine store_ok (X := X.suite a (X.pn ++ pins)) (v := .ref a) T4 hN hi (.inl hl) rfl (fun s5 S5 => ?_) (.inr hl)
  refine wpAny_mono ((hsu a (X.pn ++ pins)).run [] s5 _ _ _ S5 (hyes a na)) (fun f s6 q => ?_) (fun _ _ z => z.elim)
  cases f with
  | next => obtain ⟨a6, b6, S6, r6⟩ := q; exact gone_ok (of_suite S6 ok) hN hi hl fun s7 J7 => ⟨_, _, J7, r6⟩
  | brk => obtain ⟨a6, b6, S6, r6⟩ := q; exact gone_ok (of_suite S6 ok) hN hi hl fun s7 J7 => ⟨_, _, J7, r6⟩
  | cont => obtain ⟨a6, b6, S6, r6⟩ := q; exact gone_ok (of_suite S6 ok) hN hi hl fun s7 J7 => ⟨_, _, J7, r6⟩
  | ret u => obtain ⟨v6, a6, b6, S6, r6⟩ := q; exact gone_ok (of_suite S6 ok) hN hi hl fun s7 J7 => ⟨_, _, _, J7, r6⟩⟩
end
end Od
namespace Od
open PySem PySem.Spec L2
open PyProof.Rows hiding St cutD
def exnD (x : Exn) : D := .exn x.cls (x.fs.map Prod.fst) (x.fs.map Prod.snd)
/-- try: B except c as i: S -/
def sTry (rs : List Tx) (c : Tx) (i : Nat) (B S : SM) : SM := fun ρ => match B ρ with
  | .exc x ρ1 => if x.cls ∈ rs ∧ subE x.cls c = true ∧ i < ρ1.length then (match S (ρ1.set i (some (.sh (exnD x)))) with
    | .ok f => .ok (wipeF [i] f)
    | _ => .fail) else .fail
  | r => r
section
variable {K : PySem.W.Frag} {mg : Str → Option Value} {P H : Hp} {W : Own} {σ : St} {ρ : Env}
theorem Wd.none {i : Nat} (w : Wd K mg P W H σ ρ) : Wd K mg P W H (σ.set i none) (ρ.set i none) := by
  refine ⟨w.same, w.own, fun j t e => ?_, by simpa using w.len⟩
  by_cases hj : j = i
  · subst hj
    by_cases hlt : j < ρ.length
    · rw [List.getElem?_set_self hlt] at e; cases e
    · rw [List.getElem?_eq_none (by simpa using hlt)] at e; cases e
  · rw [List.getElem?_set_ne (Ne.symm hj)] at e ⊢
    exact w.env j t e
/-- the caught exception as data -/
theorem exn_den {rs ts fl : List Tx} (S : Errs K mg rs ts fl) (s : Same P H) {x : Exn} (hx : x.cls ∈ rs) {c : Value} {od : Option Addr} (xr : XR K mg P H x c od) {a : Addr} (na : H a = none) :
    ∃ C, Top K x.cls C ∧ c = .ref C ∧ Den K (upd P a (ExnO a c od)) (exnD x) (.ref a) := by
  obtain ⟨C, hm, rfl, q⟩ := xr
  obtain ⟨C', t, hm', _⟩ := S.at_ x.cls hx
  rw [hm] at hm'
  cases hm'
  refine ⟨C, t, rfl, ?_⟩
  unfold exnD Den
  rcases q with ⟨e, rfl⟩ | ⟨k, d, dd, v, e, rfl, hH, hP, hd⟩
  · exact ⟨a, C, none, [], rfl, t, upd_same, by rw [e]; rfl, .inl ⟨rfl, rfl⟩, by rw [e]; exact DenL.nil⟩
  · have ne : dd ≠ a := ne_of_none hH na
    have sm : Same P (upd P a (ExnO a (.ref C) (some dd))) := fun b o h => by rw [upd_ne (ne_of_none h (same_none s na))]; exact h
    refine ⟨a, C, some dd, [(sT k, v)], rfl, t, upd_same, by rw [e]; rfl, .inr ⟨dd, rfl, by rw [upd_ne ne]; exact hP⟩, ?_⟩
    rw [e]
    exact DenL.cons (Den.mono sm d v hd) DenL.nil
end
section
variable {X : Cx} {E : WX} {md : List Bool} {x c : Tx} {n : Str} {i : Nat} {body suite : List Stmt} {b₀ : Stmt} {np pos pos' : Pos} {B S : SM} {rs ts fl : List Tx} {cn : Str}
theorem sd_try (R : Errs X.K X.mg rs ts fl) (hct : c ∈ ts) (hcn : cn = sT c) (hs : X.stack = X.env :: X.outer) (hf : X.env.frame = some X.env.locals) (hex : X.ex = []) (hN : X.N.Nodup) (hi : X.N[i]? = some n) (hl : X.env.kindOf n = some .local) (hg : Gl X cn) (hk : md[i]? ≠ some true)
    (hb : ∀ (W : WX) (pn : List (Addr × Obj)) (xe : Value → Shared → Prop), Takes (X.tr pn xe) W → PassesOwn (model X.prog X.w) X.A X.env xe → SDs (X.tr pn xe) W md body B)
    (hsu : ∀ (a : Addr) (pn : List (Addr × Obj)), SDs (X.suite a pn) (fun _ _ _ _ => False) md (b₀ :: suite) S) (hdb : (cn == ("__debug__" : Str)) = false := by decide) :
    SD X E md (.Try body [.ExceptHandler (some (.Name cn np)) (some n) (b₀ :: suite) pos'] [] [] pos) (sTry rs c i B S) := by
  subst hcn
  obtain ⟨Dc, td, hmd, _⟩ := R.ask c hct
  refine PS.imp (ps_tryT (tb := fun W => rS X.K X.mg W md B) (ts := rS X.K X.mg (fun _ _ _ _ => False) md S) hs hf hex hN hi hl hg hmd hdb (fun W pn xe tk po => hb W pn xe tk po) fun a pn => hsu a pn) fun D σ H ⟨P, W, ρ, w, g⟩ => ⟨P, W, ρ, w, ?_⟩
  unfold sTry at g
  cases hB : B ρ with
  | fail => rw [hB] at g; exact g
  | ok f =>
    rw [hB] at g
    cases f with
    | nx r => exact g
    | bk r => exact g
    | ct r => exact g
    | rt t r => exact g
  | exc e ρ1 =>
    rw [hB] at g
    simp only at g
    by_cases hcnd : e.cls ∈ rs ∧ subE e.cls c = true ∧ i < ρ1.length
    · rw [if_pos hcnd] at g
      obtain ⟨h1, h2, h3⟩ := hcnd
      refine fun cv od σ' P' W' H' st wd kp xr => ⟨?_, fun a na => ?_⟩
      · obtain ⟨C, hm, rfl, _⟩ := xr
        obtain ⟨C', t, hm', _⟩ := R.at_ e.cls h1
        rw [hm] at hm'
        cases hm'
        rw [R.exm h1 hct t td, h2]
      · obtain ⟨C, t, rfl, dn⟩ := exn_den R wd.same h1 xr na
        have al := Al.new (o := ExnO a (.ref C) od) wd.same na
        obtain ⟨W2, w2, s2⟩ := (wd.al al).put (i := i) (t := .sh (exnD e)) (v := .ref a) dn h3
        refine ⟨_, W2, _, w2, ?_⟩
        have st2 := (st.trans (al.step W')).trans s2
        have kp2 : Kp md σ (σ'.set i (some (V.ref a))) := kp.trans (Kp.set hk)
        cases hS : S (ρ1.set i (some (.sh (exnD e)))) with
        | fail => rw [hS] at g; exact g
        | exc e2 r => rw [hS] at g; exact g.elim
        | ok f =>
          rw [hS] at g
          cases f with
          | nx r => exact fun σ3 P3 W3 H3 s3 w3 k3 => g _ P3 W3 H3 (st2.trans s3) w3.none ((kp2.trans k3).trans (Kp.set hk))
          | bk r => exact fun σ3 P3 W3 H3 s3 w3 k3 => g _ P3 W3 H3 (st2.trans s3) w3.none ((kp2.trans k3).trans (Kp.set hk))
          | ct r => exact fun σ3 P3 W3 H3 s3 w3 k3 => g _ P3 W3 H3 (st2.trans s3) w3.none ((kp2.trans k3).trans (Kp.set hk))
          | rt t r => exact fun v σ3 P3 W3 H3 s3 w3 k3 rt3 => g v σ3 P3 W3 H3 (st2.trans s3) w3 (kp2.trans k3) rt3
    · rw [if_neg hcnd] at g; exact g.elim
end
/-! ### isinstance(e, X) of an exception, e.f -/
def fIsE (rs cs : List Tx) : D → Option D
  | .exn c _ _ => if c ∈ rs then some (.bl (cs.any (subE c))) else none
  | _ => none
def lkX : List Tx → List D → Tx → Option D
  | k :: ks, d :: ds, f => if k = f then some d else lkX ks ds f
  | _, _, _ => none
def fFldE (rs : List Tx) (f : Tx) : D → Option D
  | .exn c ks ds => if c ∈ rs then lkX ks ds f else none
  | _ => none
end Od
namespace Od
open PySem PySem.Spec L2
open PyProof.Rows hiding St cutD
/-- an exception object as it is tracked -/
def ExnAt (H : Hp) (a D : Addr) (fs : List (Str × V)) : Prop := ∃ d, H a = some (ExnO a (.ref D) d) ∧ ((d = none ∧ fs = []) ∨ ∃ dd, d = some dd ∧ H dd = some (.xd fs))
theorem exn_view {K : PySem.W.Frag} {P H : Hp} {c : Tx} {ks : List Tx} {ds : List D} {v : V} (s : Same P H) (h : View K P H (.exn c ks ds) v) :
    ∃ a C ws, v = .ref a ∧ Top K c C ∧ ExnAt H a C ws ∧ ws.map Prod.fst = ks.map sT ∧ DenL K P ds (ws.map Prod.snd) := by
  have h : Den K P (.exn c ks ds) v := h
  unfold Den at h
  obtain ⟨a, C, d, ws, e, t, q, k, m, l⟩ := h
  exact ⟨a, C, ws, e, t, ⟨d, s a _ q, m.imp id fun ⟨dd, e, q⟩ => ⟨dd, e, s dd _ q⟩⟩, k, l⟩
section
variable {X : Cx} {pins : List (Addr × Obj)} {σ : St} {H : Hp} {s : Shared}
theorem exn_inst {a D : Addr} {fs : List (Str × V)} (I : Inv X pins σ H s) (h : ExnAt H a D fs) : ∃ oe od, PySem.W.InstAt s.heap a oe D od ∧ ((od = none ∧ fs = []) ∨ ∃ (o : Obj) (mA : Str → Option Value), od = some o ∧ (∀ name, PySem.W.lookIn name o = some (mA name)) ∧ ∀ f, RelO (fs.lookup f) (mA f)) := by
  obtain ⟨d, h1, h2⟩ := h
  obtain ⟨⟨oe, us, g, ⟨z1, z2⟩, f⟩, _⟩ := I.hok a _ h1
  have nc : PySem.W.notCls oe = true := by unfold PySem.W.notCls; rw [f]
  rcases h2 with ⟨rfl, rfl⟩ | ⟨dd, rfl, hd⟩
  · exact ⟨oe, none, ⟨g, z1, nc, by rw [z2]; trivial⟩, .inl ⟨rfl, rfl⟩⟩
  · obtain ⟨mA, hns, rel⟩ := (I.hok dd _ hd : ObjOk X.prog X.w H s.heap dd (.xd fs))
    obtain ⟨o, ho, hl⟩ := lookIn_ns hns
    exact ⟨oe, some o, ⟨g, z1, nc, by rw [z2]; exact ho⟩, .inr ⟨o, mA, rfl, hl, rel⟩⟩
/-- isinstance(e, c), isinstance(e, (c, ..)) -/
def rIsX (K : PySem.W.Frag) : List V → Hp → VK → Prop := fun xs H Q => ∃ (a D : Addr) (fs : List (Str × V)) (y : V) (b : Bool), xs = [.ref a, y] ∧ ExnAt H a D fs ∧ ErrC K D ∧ ObjCls K ∧ Q (.bl b) H ∧
  ((∃ u, ClsV y u ∧ PySem.W.kitOne K (.ref D) u = some b) ∨ ∃ tp cs us, y = .ref tp ∧ H tp = some (.tup cs) ∧ Paired ClsV cs us ∧ PySem.W.kitAny K (.ref D) us = some b)
theorem call_isX : CallR X (.builtin "isinstance") (rIsX X.K) := by
  intro pins s σ H xs us Q I r ⟨a, D, fs, y, b, e, h, C, oc, q, m⟩
  subst e
  obtain ⟨u1, u2, rfl, r1, r2⟩ := vals2 r
  cases (show u1 = Value.ref a from r1)
  obtain ⟨oe, od, J, _⟩ := exn_inst I h
  have cl : (PySem.W.clsIn X.K D).isSome = true := by
    obtain ⟨cd, hc, _⟩ := PySem.W.any_some C.hd
    rw [hc]; rfl
  have Z := PySem.W.kitx_exc (x := a) (ox := oe) (od := od) cl C.ga C.gg C.o.exC C.ca oc.cg oc.ct C.cm
  rcases m with ⟨u, k, e⟩ | ⟨tp, cs, ws, rfl, hT, k, e⟩
  · cases k.eq r2
    exact PySem.W.kia_one Z I.kIn J e (fun z => nomatch z) fun tk => ⟨.bl b, H, I.tok tk, rfl, q⟩
  · cases (show u2 = Value.ref tp from r2)
    obtain ⟨_, its, rv, ⟨oc', od', dt, sl⟩, h1, h2, n, h3⟩ := (I.hok tp _ hT : ObjOk X.prog X.w H s.heap tp (.tup cs))
    have e3 := ClsV.all k rv
    subst e3
    simp only at h2 h3
    subst h2 h3
    exact PySem.W.kia_tup Z I.kIn J h1 e (fun z => nomatch z) fun tk => ⟨.bl b, H, I.tok tk, rfl, q⟩
end
/-- a class's name where it is asked for -/
def ClsRef (X : Cx) (rs : List Tx) (y : Tx) (n : Str) (p : Pos) : Prop := ∃ v u, PE X (.Name n p) (tC v) ∧ ClsV v u ∧ ∀ x ∈ rs, ∀ C, Top X.K x C → PySem.W.kitOne X.K (.ref C) u = some (subE x y)
section
variable {X : Cx} {E : WX} {rs ts fl : List Tx} {y : Tx} {n : Str} {ys : List Tx} {es : List Expr} {p p2 p3 pos : Pos} {e : Expr} {A : HM}
theorem cls_own (R : Errs X.K X.mg rs ts fl) (hy : y ∈ ts) (hn : n = sT y) (hg : Gl X n) (hdb : (n == ("__debug__" : Str)) = false := by decide) : ClsRef X rs y n p := by
  subst hn
  obtain ⟨D, t, hm, _⟩ := R.ask y hy
  exact ⟨.ref D, .ref D, pe_glob hg hm rfl hdb, .own D, fun x hx C tC => R.kit hx hy tC t⟩
theorem cls_VE (R : Errs X.K X.mg rs ts fl) (hg : Gl X "ValueError") (hm : X.mg "ValueError" = none) : ClsRef X rs [86, 97, 108, 117, 101, 69, 114, 114, 111, 114] "ValueError" p :=
  ⟨.ty "ValueError", .type "ValueError", pe_bltn hg hm PyProof.Rows.Boot.«ValueError» rfl (by decide) (by decide), .ty _, fun x hx C tC => by rw [R.kitV hx tC]; congr 1; unfold subE; simp⟩
theorem fIsE_some {cs : List Tx} {d r : D} (h : fIsE rs cs d = some r) : ∃ c ks ds, d = .exn c ks ds ∧ c ∈ rs ∧ r = .bl (cs.any (subE c)) := by
  cases d <;> simp only [fIsE, reduceCtorEq] at h
  split at h
  · rename_i hc; cases h; exact ⟨_, _, _, rfl, hc, rfl⟩
  · cases h
theorem ev_isE1 (R : Errs X.K X.mg rs ts fl) (hg : Gl X "isinstance") (hm : X.mg "isinstance" = none) (ha : EH X E e A) (hc : ClsRef X rs y n p2)
    (he : starEach [e, .Name n p2] X.env = (false, eval e X.env) :: starEach [.Name n p2] X.env := by rfl) (he2 : starEach [.Name n p2] X.env = (false, eval (.Name n p2) X.env) :: starEach [] X.env := by rfl) (hpl : (backTo pos (starEach [.Name n p2] X.env)).any (·.1) = false := by rfl) :
    EV X E (.Call (.Name "isinstance" p) [e, .Name n p2] [] pos) (e1 (fIsE rs [y]) A) := by
  obtain ⟨vc, uc, h1, h2, h3⟩ := hc
  refine PE.imp (pe_callB call_isX hg hm (by decide +kernel) (pa_cons ha (pa_cons h1 pa_nil he2) he) (by decide) (by decide) he hpl) fun σ H Q ⟨P, W, ρ, w, g⟩ => ⟨P, W, ρ, w, (Go.bind g).mono fun v H1 ⟨P1, W1, a, s1, ⟨w1, k1⟩, g1⟩ => ?_⟩
  obtain ⟨res, e', g2⟩ := Go.of g1
  obtain ⟨d, hd, hf⟩ := Option.bind_eq_some_iff.mp e'
  obtain ⟨c, ks, ds, rfl, hcr, rfl⟩ := fIsE_some hf
  obtain ⟨b, C, ws, rfl, t, xa, _⟩ := exn_view w1.same (Hok.view w1 k1 hd)
  obtain ⟨C', t', _, ec⟩ := R.at_ c hcr
  obtain rfl := top_inj t t'
  exact ⟨b, C, ws, vc, _, rfl, xa, ec, R.oc, g2 (.bl _) P1 W1 H1 (Step.refl P1 W1 H1) ⟨w1, dbl⟩, .inl ⟨uc, h2, by rw [h3 c hcr C t]; simp⟩⟩
/-- e.f of an exception -/
def tFldX (K : PySem.W.Frag) (f : Str) (te : TE) : TE := fun σ H Q => te σ H fun x H1 => ∃ (a D : Addr) (fs : List (Str × V)) (v : V), x = .ref a ∧ ErrC K D ∧ PySem.W.findIn K (.ref D) f = some none ∧ ExnAt H1 a D fs ∧ fs.lookup f = some v ∧ Q v H1
theorem pe_fldX {te : TE} {f : Str} (h : PE X e te) (hb : attributeBase e f X.env (eval e X.env) = eval e X.env := by rfl) : PE X (.Attribute e f pos) (tFldX X.K f te) := ⟨fun pins s σ H Q I q => by
  refine attr_of hb (thn (h.run pins s σ H _ I q) ?_)
  rintro u s1 ⟨x, H1, I1, r, a, D, fs, v, rfl, C, hn, xa, l, q1⟩
  cases (show u = Value.ref a from r)
  obtain ⟨oe, od, J, m⟩ := exn_inst I1 xa
  rcases m with ⟨_, rfl⟩ | ⟨o, mA, rfl, hl, rel⟩
  · cases l
  · have r2 := rel f
    rw [l] at r2
    obtain ⟨u, hu, ru⟩ := RelO.some_of r2
    exact HandSPX.exc_get I1.kIn J C.ga C.gg C.o.exC (PySem.W.findObj_own C.hd hn rfl (by rw [hl, hu])) (handed_of ru) ⟨v, H1, I1.tok _, ru, q1⟩⟩
theorem lkX_get {K : PySem.W.Frag} {P : Hp} : ∀ {ks : List Tx} {ds : List D} {ws : List (Str × V)} {f : Tx} {d : D}, lkX ks ds f = some d → ws.map Prod.fst = ks.map sT → DenL K P ds (ws.map Prod.snd) → ∃ v, ws.lookup (sT f) = some v ∧ Den K P d v
  | [], ds, ws, f, d, h, _, _ => by cases ds <;> cases h
  | k :: ks, [], ws, f, d, h, _, _ => by cases h
  | k :: ks, e :: ds, [], f, d, h, e1, _ => by cases e1
  | k :: ks, e :: ds, (n, v) :: ws, f, d, h, e1, l => by
    simp only [List.map_cons, List.cons.injEq] at e1
    obtain ⟨rfl, e1⟩ := e1
    obtain ⟨v', r, e2, h1, h2⟩ := l
    simp only [List.map_cons, List.cons.injEq] at e2
    obtain ⟨rfl, rfl⟩ := e2
    unfold lkX at h
    by_cases hk : k = f
    · subst hk
      rw [if_pos rfl] at h
      cases h
      exact ⟨v, by simp [List.lookup], h1⟩
    · rw [if_neg hk] at h
      obtain ⟨w, hw, hd⟩ := lkX_get h e1 h2
      refine ⟨w, ?_, hd⟩
      have : (sT f == sT k) = false := by
        rw [beq_eq_false_iff_ne]
        exact fun z => hk (sT_inj z).symm
      simp [List.lookup, this, hw]
theorem ev_fldE {f : Tx} (R : Errs X.K X.mg rs ts fl) (hf : f ∈ fl) (hn : n = sT f) (ha : EH X E e A) (hb : attributeBase e n X.env (eval e X.env) = eval e X.env := by rfl) :
    EV X E (.Attribute e n pos) (e1 (fFldE rs f) A) := by
 subst hn
 exact PE.imp (pe_fldX ha hb) fun σ H Q ⟨P, W, ρ, w, g⟩ => ⟨P, W, ρ, w, (Go.bind g).mono fun v H1 ⟨P1, W1, a, s1, ⟨w1, k1⟩, g1⟩ => by
  obtain ⟨res, e', g2⟩ := Go.of g1
  obtain ⟨d, hd, hf'⟩ := Option.bind_eq_some_iff.mp e'
  cases d <;> simp only [fFldE, reduceCtorEq] at hf'
  rename_i c ks ds
  split at hf'
  · rename_i hcr
    obtain ⟨b, C, ws, rfl, t, xa, k, l⟩ := exn_view w1.same (Hok.view w1 k1 hd)
    obtain ⟨C', t', _, ec⟩ := R.at_ c hcr
    obtain rfl := top_inj t t'
    obtain ⟨v, hv, dv⟩ := lkX_get hf' k l
    exact ⟨b, C, ws, v, rfl, ec, R.nf c hcr f hf C t, xa, hv, g2 v P1 W1 H1 (Step.refl P1 W1 H1) ⟨w1, dv⟩⟩
  · cases hf'⟩
end
end Od
namespace Od
open PySem PySem.Spec L2
open PyProof.Rows hiding St cutD
section
variable {ΦS : Fl → Prop} {Ψ : Exn → Env → Prop} {ρ : Env} {F : EM} {Φ : D → Prop} {S B : SM}
theorem s_raise1 (x f : Tx) : sat (sRaise1 x f F ρ) ΦS Ψ = sat (F ρ) (fun a => Ψ ⟨x, [(f, a.1)]⟩ a.2) Ψ := by unfold sRaise1; rw [sat_bind]; rfl
theorem s_try (rs : List Tx) (c : Tx) (i : Nat) : sat (sTry rs c i B S ρ) ΦS Ψ = sat (B ρ) ΦS (fun x ρ1 => (x.cls ∈ rs ∧ subE x.cls c = true) ∧ ex (setE ρ1 i (some (.sh (exnD x)))) fun ρ2 => sat (S ρ2) (fun f => match f with
    | .nx ρ => cps (List.set ρ i none) fun ρ' => ΦS (.nx ρ')
    | .bk ρ => cps (List.set ρ i none) fun ρ' => ΦS (.bk ρ')
    | .ct ρ => cps (List.set ρ i none) fun ρ' => ΦS (.ct ρ')
    | .rt t ρ => ΦS (.rt t ρ)) (fun _ _ => False)) := by
  unfold sTry
  cases B ρ with
  | ok f => rfl
  | fail => rfl
  | exc x ρ1 =>
    show sat (if _ then _ else _) ΦS Ψ = _
    rw [sat_iteF, sat_exc, ex_setE]
    apply propext
    constructor
    · rintro ⟨⟨h1, h2, h3⟩, h⟩
      refine ⟨⟨h1, h2⟩, h3, ?_⟩
      revert h
      cases S (ρ1.set i (some (T.sh (exnD x)))) with
      | ok f => cases f <;> exact id
      | exc y r => exact id
      | fail => exact id
    · rintro ⟨⟨h1, h2⟩, h3, h⟩
      refine ⟨⟨h1, h2, h3⟩, ?_⟩
      revert h
      cases S (ρ1.set i (some (T.sh (exnD x)))) with
      | ok f => cases f <;> exact id
      | exc y r => exact id
      | fail => exact id
theorem x_isE (rs cs : List Tx) (c : Tx) (ks : List Tx) (ds : List D) : ex (fIsE rs cs (.exn c ks ds)) Φ = (c ∈ rs ∧ Φ (.bl (cs.any (subE c)))) := by
  show ex (if _ then _ else _) Φ = _
  by_cases h : c ∈ rs
  · rw [if_pos h]; simp [h, ex_some]
  · rw [if_neg h]; simp [h, ex_none]
theorem x_fldE (rs : List Tx) (f c : Tx) (ks : List Tx) (ds : List D) : ex (fFldE rs f (.exn c ks ds)) Φ = (c ∈ rs ∧ ex (lkX ks ds f) Φ) := by
  show ex (if _ then _ else _) Φ = _
  by_cases h : c ∈ rs
  · rw [if_pos h]; simp [h]
  · rw [if_neg h]; simp [h, ex_none]
theorem x_lkX1 (f : Tx) (ks : List Tx) (d : D) (ds : List D) : ex (lkX (f :: ks) (d :: ds) f) Φ = Φ d := by
  unfold lkX
  rw [if_pos rfl, ex_some]
theorem x_exnD1 (c f : Tx) (d : D) : exnD ⟨c, [(f, d)]⟩ = .exn c [f] [d] := rfl
theorem x_exnD0 (c : Tx) : exnD ⟨c, []⟩ = .exn c [] [] := rfl
theorem x_isNe (c : Tx) (ks : List Tx) (ds : List D) {ΦB : Bool → Prop} : ex (cIsN (.exn c ks ds) .non) ΦB = ΦB false := rfl
theorem x_noNe (c : Tx) (ks : List Tx) (ds : List D) {ΦB : Bool → Prop} : ex (cNotN (.exn c ks ds) .non) ΦB = ΦB true := rfl
end
end Od
namespace Od
open PySem PySem.Spec L2
open PyProof.Rows hiding St cutD
/-! ### s[::-1] -/
section
variable {X : Cx} {E : WX} {e : Expr} {te : TE} {A : HM} {k : Nat} {p1 p2 p3 pos : Pos}
end
end Od
namespace Od
open PySem PySem.Spec L2
open PyProof.Rows hiding St cutD
/-! ### x, y = a, b where a tuple is made (a name that an inner block reads) -/
section
variable {K : PySem.W.Frag} {mg : Str → Option Value} {E : WX} {md : List Bool} {P H : Hp} {W : Own} {σ : St} {ρ : Env} {D : Ends} {i j : Nat} {A B : OM}
end
section
variable {X : Cx} {E : WX} {md : List Bool} {i j : Nat} {x y : Str} {a b : Expr} {A B : OM} {px py pt pos : Pos} {kt k2 : Nat} {pt2 : Pos}
end
end Od
namespace Od
open PySem PySem.Spec L2
open PyProof.Rows hiding St cutD
/-! ### x op= e -/
section
variable {X : Cx} {E : WX} {md : List Bool} {i : Nat} {x : Str} {e : Expr} {F : EM} {op : Operator} {pos pos' : Pos} {r : R2} {f : D → D → Option D}
end
/-! ### xs[e] op= e', xs a list of the variable's own -/
/-! ### int(s) of figures -/
def digB (s : Tx) : Bool := s.all (fun c => decide (48 ≤ c) && decide (c ≤ 57)) && !s.isEmpty && decide (s.length ≤ 640)
def fIntS : List D → Option D
  | [.str s] => if digB s = true then some (.int (NumText.digitsVal s : Nat)) else none
  | _ => none
theorem f_intS {K : PySem.W.Frag} : CbV K (fun xs H Q => ∃ a n, xs = [.str a] ∧ PySem.intText? a = some n ∧ a.length ≤ 640 ∧ Q (.int n) H) fIntS := by
  intro P H vs ds res Q s v hf q
  unfold fIntS at hf
  split at hf
  · split at hf
    · rename_i hd
      cases hf
      obtain ⟨v, rfl, h⟩ := vl1 v
      unfold digB at hd
      simp only [Bool.and_eq_true, List.all_eq_true, decide_eq_true_eq, Bool.not_eq_true', List.isEmpty_eq_false_iff] at hd
      refine ⟨_, _, by rw [vstr h], PySem.intText_digits (fun c hc => ?_) ?_ ?_, by rw [sT_len]; exact hd.2, ?_⟩
      · rw [sT_cps] at hc; exact hd.1.1 c hc
      · rw [sT_cps]; exact hd.1.2
      · rw [sT_len]; omega
      · rw [sT_cps]; exact q _ P H (Al.refl s) dint
    · cases hf
  · cases hf
theorem x_intS (s : Tx) {Φ : D → Prop} : ex (fIntS [.str s]) Φ = (digB s = true ∧ Φ (.int (NumText.digitsVal s : Nat))) := by show ex (if _ then _ else _) _ = _; rw [ex_ite]; rfl
section
variable {ΦS : Fl → Prop} {Ψ : Exn → Env → Prop} {ρ : Env} {F B : EM}
end
/-! ### {} and d[k] = v -/
def putKD (ks : List DK) (vs : List D) (k : DK) (d : D) : List DK × List D := if (ks.any fun x => decide (x = k)) = true then (ks, (ks.zip vs).map fun p => if p.1 = k then d else p.2) else (ks ++ [k], vs ++ [d])
def lkDc (ρ : Env) (i : Nat) : Option (List DK × List D) := match ρ[i]? with
  | some (some (.dct ks vs)) => some (ks, vs)
  | _ => none
def tD0 : OM := fun ρ => .ok (.dct [] [], ρ)
def gDx (i : Nat) (B : EM) : GM := fun d ρ => (lkDc ρ i).bind fun _ => match B ρ with
  | .ok (kd, ρ1) => (keyD kd).bind fun k => (lkDc ρ1 i).bind fun r => if r.1.length < 1000000 then some (ρ1.set i (some (.dct (putKD r.1 r.2 k d).1 (putKD r.1 r.2 k d).2))) else none
  | _ => none
section
variable {K : PySem.W.Frag} {mg : Str → Option Value} {P H : Hp} {W : Own} {σ : St} {ρ : Env}
theorem lkDc_some {i : Nat} {r : List DK × List D} (h : lkDc ρ i = some r) : ρ[i]? = some (some (.dct r.1 r.2)) := by
  unfold lkDc at h
  split at h
  · rename_i e; cases h; exact e
  · cases h
theorem Wd.dctAt {i : Nat} {ks : List DK} {ds : List D} (w : Wd K mg P W H σ ρ) (e : ρ[i]? = some (some (.dct ks ds))) : ∃ l ws, σ[i]? = some (some (.ref l)) ∧ W l = some (some i, Option.none) ∧ H l = some (.dK ws) ∧ ws.map Prod.fst = ks.map kK ∧ DenL K P ds (ws.map Prod.snd) ∧ i < ρ.length := by
  obtain ⟨v, hs, hr⟩ := w.env i _ e
  obtain ⟨a, ws, rfl, hw, hh, k, l⟩ := hr
  exact ⟨a, ws, hs, hw, hh, k, l, (List.getElem?_eq_some_iff.mp e).1⟩
theorem putK_den : ∀ {ks : List DK} {ds : List D} {ws : List (Key × V)} {k : DK} {d : D} {v : V}, ws.map Prod.fst = ks.map kK → DenL K P ds (ws.map Prod.snd) → Den K P d v →
    (putK ws (kK k) v).map Prod.fst = (putKD ks ds k d).1.map kK ∧ DenL K P (putKD ks ds k d).2 ((putK ws (kK k) v).map Prod.snd) := by
  intro ks ds ws k d v h1 h2 hd
  have hany : (ws.any fun kv => decide (kv.1 = kK k)) = (ks.any fun x => decide (x = k)) := by
    have : (ws.any fun kv => decide (kv.1 = kK k)) = ((ws.map Prod.fst).any fun x => decide (x = kK k)) := by rw [List.any_map]; rfl
    rw [this, h1, List.any_map]
    congr 1
    funext x
    simp only [Function.comp]
    by_cases e : x = k
    · subst e; simp
    · rw [decide_eq_false e, decide_eq_false fun z => e (kK_inj z)]
  unfold putK putKD
  by_cases hk : (ks.any fun x => decide (x = k)) = true
  · rw [hany, if_pos hk, if_pos hk]
    clear hany hk
    induction ws generalizing ks ds with
    | nil =>
      cases ks with
      | nil => exact ⟨rfl, by simp only [List.map_nil, List.zip_nil_left]; exact DenL.nil⟩
      | cons a b => cases h1
    | cons p ws ih =>
      cases ks with
      | nil => cases h1
      | cons a ks =>
        simp only [List.map_cons, List.cons.injEq] at h1
        cases ds with
        | nil => unfold DenL at h2; cases h2
        | cons d0 ds =>
          obtain ⟨v0, r, e, q1, q2⟩ := h2
          simp only [List.map_cons, List.cons.injEq] at e
          obtain ⟨rfl, rfl⟩ := e
          obtain ⟨i1, i2⟩ := ih h1.2 q2
          simp only [List.map_cons, List.zip_cons_cons]
          by_cases ha : a = k
          · have e2 : p.1 = kK k := by rw [h1.1, ha]
            rw [if_pos e2, if_pos ha]
            exact ⟨by rw [i1, ← h1.1], DenL.cons hd i2⟩
          · have e2 : ¬ p.1 = kK k := by rw [h1.1]; exact fun z => ha (kK_inj z)
            rw [if_neg e2, if_neg ha]
            exact ⟨by rw [i1, ← h1.1], DenL.cons q1 i2⟩
  · rw [hany, if_neg hk, if_neg hk]
    exact ⟨by simp [h1], by rw [List.map_append]; exact DenL.append h2 (DenL.cons hd DenL.nil)⟩
end
section
variable {X : Cx} {E : WX} {i : Nat} {x : Str} {p1 pos : Pos} {e : Expr} {B : EM} {sl : List Nat}
theorem et_dnew : ET X E (.Dict [] [] pos) tD0 := PE.imp pe_dnewK fun σ H Q ⟨P, W, ρ, w, g⟩ => fun p n => by
  obtain ⟨w2, s2⟩ := w.newT (o := .dK []) n
  exact g (.ref p) P _ _ s2 ⟨w2, p, [], rfl, by simp [ownNew], upd_same, rfl, DenL.nil⟩
theorem gd_dx (hu : X.A.units + 1 < cLine) (hN : X.N[i]? = some x) (hv : Vis X.env.scope x) (hb : EV X E0 e B) (hd : (x == ("__debug__" : Str)) = false := by decide) (hcd : (x == ("__classdict__" : Str)) = false := by decide)
    (ha : ∀ v, assign (.Subscript (.Name x p1) e pos) X.env v = (do
      let ov ← holding [v] (eval (.Name x p1) X.env)
      let iv ← holding [v, ov] (eval e X.env)
      standAt pos
      holding [v, ov, iv] (setItem ov iv v)
      release [v, ov, iv] []) := by intro _; rfl) : GD X sl (.Subscript (.Name x p1) e pos) (gDx i B) :=
  PG.imp (pg_sub (pe_var hN hv hd hcd) hb (set_dict hu) ha) fun v σ H Q ⟨P, W, ρ, d, ρ', w, dn, e, q⟩ => by
    unfold gDx at e
    obtain ⟨r0, e0, e⟩ := Option.bind_eq_some_iff.mp e
    obtain ⟨l, ws0, hs, hw0, hh0, _⟩ := w.dctAt (lkDc_some e0)
    refine ⟨.ref l, hs, P, W, ρ, w, ?_⟩
    cases hB : B ρ with
    | fail => rw [hB] at e; cases e
    | exc y ρ1 => rw [hB] at e; cases e
    | ok rb =>
      obtain ⟨b, ρ1⟩ := rb
      rw [hB] at e
      obtain ⟨k, ek, e⟩ := Option.bind_eq_some_iff.mp e
      obtain ⟨r1, e1, e⟩ := Option.bind_eq_some_iff.mp e
      split at e
      · rename_i hl
        cases e
        intro y P1 W1 H1 st ⟨w1, dy⟩
        obtain ⟨l', ws, hs', hw, hh, hk, dl, hi⟩ := w1.dctAt (lkDc_some e1)
        rw [hs] at hs'
        cases hs'
        obtain rfl := keyD_den ek dy
        have hwl : ws.length = r1.1.length := by have := congrArg List.length hk; simpa using this
        refine ⟨l, _, rfl, DPut.k hh (by rw [hwl]; exact Nat.lt_of_lt_of_le hl (by decide)), ?_⟩
        obtain ⟨g1, g2⟩ := putK_den (k := k) hk dl (Den.mono st.1 _ _ dn)
        obtain ⟨w2, s2⟩ := w1.mut (o := .dK (putK ws (kK k) v)) (t := .dct (putKD r1.1 r1.2 k d).1 (putKD r1.1 r1.2 k d).2) hi hs hw ⟨l, _, rfl, hw, upd_same, g1, g2⟩
        exact q σ P1 W1 _ (st.trans s2) w2 (Ke.refl sl σ)
      · cases e
end
section
variable {Ψ : Exn → Env → Prop} {ρ : Env} {ΦT : T × Env → Prop} {B : EM} {ΦR : List DK × List D → Prop}
theorem s_d0 : sat (tD0 ρ) ΦT Ψ = ΦT (.dct [] [], ρ) := rfl
theorem k_lkDc0 (ks : List DK) (vs : List D) : ex (lkDc (some (.dct ks vs) :: ρ) 0) ΦR = ΦR (ks, vs) := rfl
theorem k_lkDcs (x : Option T) (i : Nat) : ex (lkDc (x :: ρ) (i + 1)) ΦR = ex (lkDc ρ i) ΦR := rfl
theorem m_gDx (i : Nat) (d : D) {Φ : Env → Prop} : ex (gDx i B d ρ) Φ = ex (lkDc ρ i) fun _ => sat (B ρ) (fun a => ex (keyD a.1) fun k => ex (lkDc a.2 i) fun r => r.1.length < 1000000 ∧ cps (List.set a.2 i (some (.dct (putKD r.1 r.2 k d).1 (putKD r.1 r.2 k d).2))) Φ) (fun _ _ => False) := by
  unfold gDx
  rw [ex_bind]; congr 1; funext _
  cases B ρ with
  | fail => rfl
  | exc x ρ => rfl
  | ok r =>
    obtain ⟨b, ρ1⟩ := r
    show ex (Option.bind _ _) _ = ex (keyD b) _
    rw [ex_bind]; congr 1; funext k
    rw [ex_bind]
    show ex (lkDc ρ1 i) _ = ex (lkDc ρ1 i) _
    congr 1; funext r
    rw [ex_ite]; rfl
theorem x_keyi (i : Int) {Φ : DK → Prop} : ex (keyD (.int i)) Φ = Φ (.inl i) := rfl
theorem x_keys (s : Tx) {Φ : DK → Prop} : ex (keyD (.str s)) Φ = Φ (.inr s) := rfl
end
end Od
namespace Od
open PySem PySem.Spec L2
open PyProof.Rows hiding St cutD
section
variable {K : PySem.W.Frag}
end
end Od
namespace Od
open PySem PySem.Spec L2
open PyProof.Rows hiding St cutD
/-! ### a, b, .. = x, y, .. of any number -/
abbrev Wt := Nat × T × V
def setE_ (q : List Wt) (ρ : Env) : Env := q.foldl (fun ρ p => ρ.set p.1 (some p.2.1)) ρ
def setS_ (q : List Wt) (σ : St) : St := q.foldl (fun σ p => σ.set p.1 (some p.2.2)) σ
def setT_ (q : List (Nat × T)) (ρ : Env) : Env := q.foldl (fun ρ p => ρ.set p.1 (some p.2)) ρ
def setV_ (q : List (Nat × V)) (σ : St) : St := q.foldl (fun σ p => σ.set p.1 (some p.2)) σ
def parM : List (Nat × OM) → List (Nat × T) → SM
  | [], q, ρ => if (q.all fun p => decide (p.1 < ρ.length)) = true then .ok (.nx (setT_ q ρ)) else .fail
  | (i, A) :: r, q, ρ => A ρ >>= fun a => if rootT a.1 = true then parM r (q ++ [(i, a.1)]) a.2 else .fail
def sParN (As : List (Nat × OM)) : SM := parM As []
section
variable {K : PySem.W.Frag} {mg : Str → Option Value} {E : WX} {md : List Bool} {P H : Hp} {W W' : Own} {σ : St} {ρ : Env} {D : Ends} {t : T} {v : V}
theorem Pend.own (h : Pend K P W H t v) (k : ∀ x, RootAt t v x → W' x = none) : Pend K P W' H t v := by
  cases t with
  | sh d => exact h
  | lst ds => obtain ⟨c, vs, e, hw, r⟩ := h; exact ⟨c, vs, e, k c e, r⟩
  | dct ks ds => obtain ⟨c, vs, e, hw, r⟩ := h; exact ⟨c, vs, e, k c e, r⟩
  | _ => exact h
theorem adoptAll : ∀ (q : List Wt) {W : Own} {σ : St} {ρ : Env}, Wd K mg P W H σ ρ → (∀ p ∈ q, Pend K P W H p.2.1 p.2.2 ∧ p.1 < ρ.length) → q.Pairwise (fun a b => ∀ x, RootAt a.2.1 a.2.2 x → ¬ RootAt b.2.1 b.2.2 x) →
    ∃ W', Wd K mg P W' H (setS_ q σ) (setE_ q ρ) ∧ ∀ x, W x = none → (∀ p ∈ q, ¬ RootAt p.2.1 p.2.2 x) → W' x = none
  | [], W, σ, ρ, w, _, _ => ⟨W, w, fun x h _ => h⟩
  | p :: q, W, σ, ρ, w, hp, hd => by
    rw [List.pairwise_cons] at hd
    obtain ⟨h1, h2⟩ := hp p List.mem_cons_self
    obtain ⟨W1, w1, n1⟩ := w.adoptR h1 h2
    obtain ⟨W2, w2, n2⟩ := adoptAll q w1 (fun p' hp' => by
      obtain ⟨g1, g2⟩ := hp p' (List.mem_cons_of_mem p hp')
      exact ⟨g1.own fun x hx => n1 x (g1.root hx).1 fun z => hd.1 p' hp' x z hx, by simpa using g2⟩) hd.2
    exact ⟨W2, w2, fun x hx hn => n2 x (n1 x hx (hn p List.mem_cons_self)) fun p' hp' => hn p' (List.mem_cons_of_mem p hp')⟩
/-- the arguments one by one -/
def rPA (K : PySem.W.Frag) (mg : Str → Option Value) (E : WX) : List (Nat × OM) → St → Hp → (List V → Hp → Prop) → Prop
  | [], σ, H, Q => Q [] H
  | (_, A) :: r, σ, H, Q => rX K mg E (TRel K mg) A σ H fun v H1 => rPA K mg E r σ H1 fun vs H2 => Q (v :: vs) H2
theorem setS_len (q : List Wt) : ∀ σ : St, (setS_ q σ).length = σ.length := by
  induction q with
  | nil => intro σ; rfl
  | cons p q ih => intro σ; show (setS_ q _).length = _; rw [ih]; simp
theorem setS_ne (q : List Wt) : ∀ (σ : St) (i : Nat), (∀ p ∈ q, p.1 ≠ i) → (setS_ q σ)[i]? = σ[i]? := by
  induction q with
  | nil => intro σ i _; rfl
  | cons p q ih =>
    intro σ i h
    show (setS_ q _)[i]? = _
    rw [ih _ i fun p' hp' => h p' (List.mem_cons_of_mem p hp'), List.getElem?_set_ne (h p List.mem_cons_self)]
theorem setT_eq (q : List Wt) : ∀ ρ : Env, setT_ (q.map fun p => (p.1, p.2.1)) ρ = setE_ q ρ := by
  induction q with
  | nil => intro ρ; rfl
  | cons p q ih => intro ρ; exact ih _
theorem setV_eq (q : List Wt) : ∀ σ : St, setV_ (q.map fun p => (p.1, p.2.2)) σ = setS_ q σ := by
  induction q with
  | nil => intro ρ; rfl
  | cons p q ih => intro ρ; exact ih _
theorem parN_core {P0 H0 : Hp} {W0 : Own} {is : List Nat} (hk : ∀ i ∈ is, md[i]? ≠ some true) : ∀ (As : List (Nat × OM)) (q : List Wt) {P H : Hp} {W : Own} {ρ : Env}, (∀ p ∈ As, p.1 ∈ is) → (∀ p ∈ q, p.1 ∈ is) → Wd K mg P W H σ ρ → Step P0 W0 H0 P W H →
    (∀ p ∈ q, Pend K P W H p.2.1 p.2.2 ∧ ∀ x, RootAt p.2.1 p.2.2 x → ¬ ∃ o, H0 x = some o ∧ W0 x = none) → q.Pairwise (fun a b => ∀ x, RootAt a.2.1 a.2.2 x → ¬ RootAt b.2.1 b.2.2 x) →
    GoS K mg E md (parM As (q.map fun p => (p.1, p.2.1)) ρ) P0 W0 H0 σ D →
    rPA K mg E As σ H fun vs H2 => ∃ P6 W6 ρ6, vs.length = As.length ∧ Wd K mg P6 W6 H2 (setV_ ((q.map fun p => (p.1, p.2.2)) ++ (As.map Prod.fst).zip vs) σ) ρ6 ∧
      ∀ P7 W7 H7, Step P6 W6 H2 P7 W7 H7 → Wd K mg P7 W7 H7 (setV_ ((q.map fun p => (p.1, p.2.2)) ++ (As.map Prod.fst).zip vs) σ) ρ6 → D.nx (setV_ ((q.map fun p => (p.1, p.2.2)) ++ (As.map Prod.fst).zip vs) σ) H7
  | [], q, P, H, W, ρ, _, hq, w, st, hp, hd, g => by
    unfold parM at g
    split at g
    · rename_i hl
      rw [List.all_eq_true] at hl
      obtain ⟨W6, w6, n6⟩ := adoptAll q w (fun p hpq => ⟨(hp p hpq).1, by simpa using hl (p.1, p.2.1) (List.mem_map.mpr ⟨p, hpq, rfl⟩)⟩) hd
      simp only [rPA, List.map_nil, List.zip_nil_left, List.append_nil, setV_eq]
      refine ⟨P, W6, _, rfl, w6, fun P7 W7 H7 s7 w7 => ?_⟩
      rw [setT_eq] at g
      refine g _ P7 W7 H7 (Step.trans ⟨st.1, fun x o hx wx => ?_⟩ s7) w7 ⟨setS_len q σ, fun i hi => setS_ne q σ i fun p hpq z => hk p.1 (hq p hpq) (by rw [z]; exact hi)⟩
      obtain ⟨a1, a2, a3⟩ := st.2 x o hx wx
      exact ⟨a1, n6 x a2 fun p hpq z => (hp p hpq).2 x z ⟨o, hx, wx⟩, a3⟩
    · exact g.elim
  | (i, A) :: As, q, P, H, W, ρ, hi, hq, w, st, hp, hd, g => by
    unfold parM at g
    refine ⟨P, W, ρ, w, ?_⟩
    cases hA : A ρ with
    | fail => rw [hA] at g; exact g.elim
    | exc e ρ' => rw [hA] at g; exact fun c od P' W' H' s w' r => g c od σ P' W' H' (st.trans s) w' (Kp.refl md σ) r
    | ok r =>
      rw [hA, ok_bind] at g
      intro v P1 W1 H1 st1 ⟨w1, r1⟩
      split at g
      · rename_i hr
        obtain ⟨W2, w2, st2, pd, nr⟩ := w1.pend r1 hr
        have all := (st.trans st1).trans st2
        have rcc := parN_core hk As (q ++ [(i, r.1, v)]) (fun p h => hi p (List.mem_cons_of_mem _ h)) (fun p h => by
          rcases List.mem_append.mp h with h | h
          · exact hq p h
          · rw [List.mem_singleton.mp h]; exact hi (i, A) List.mem_cons_self) w2 all (fun p h => by
          rcases List.mem_append.mp h with h | h
          · exact ⟨((hp p h).1.step st1).step st2, (hp p h).2⟩
          · rw [List.mem_singleton.mp h]
            exact ⟨pd, fun x hx ⟨o, h1, h2⟩ => nr x hx ((st.trans st1).2 x o h1 h2).2.1⟩) (List.pairwise_append.mpr ⟨hd, List.pairwise_singleton _ _, fun a ha b hb x hx => by
          rw [List.mem_singleton.mp hb]
          exact fun z => nr x z (((hp a ha).1.step st1).root hx).1⟩) (by simpa using g)
        simpa [List.append_assoc] using rcc
      · exact g.elim
end
section
variable {X : Cx} {E : WX} {md : List Bool} {e : Expr} {es : List Expr} {A : OM} {As : List (Nat × OM)} {i : Nat} {is : List Nat} {x : Str} {p pos : Pos}
def EPA (X : Cx) (E : WX) (es : List Expr) (As : List (Nat × OM)) : Prop := PA X es (rPA X.K X.mg E As)
theorem epa_nil : EPA X E [] [] := PA.imp pa_nil fun _ _ _ h => h
theorem epa_cons (h : ET X E e A) (t : EPA X E es As) (he : starEach (e :: es) X.env = (false, eval e X.env) :: starEach es X.env := by rfl) : EPA X E (e :: es) ((i, A) :: As) := PA.imp (pa_cons h t he) fun _ _ _ h => h
/-- three plain local names -/
theorem sd_par3 {i j l : Nat} {x y z : Str} {a b c : Expr} {A B C : OM} {px py pz pt pt2 : Pos} {k k2 : Nat} (hc : X.calm = true) (hN : X.N.Nodup) (hi : X.N[i]? = some x) (hj : X.N[j]? = some y) (hl : X.N[l]? = some z) (hij : i ≠ j) (hil : i ≠ l) (hjl : j ≠ l)
    (hx : X.env.scope.names.lookup x = some .local) (hy : X.env.scope.names.lookup y = some .local) (hz : X.env.scope.names.lookup z = some .local) (ha : EPA X E [a, b, c] [(i, A), (j, B), (l, C)]) (hk : ∀ m ∈ [i, j, l], md[m]? ≠ some true)
    (hw : swappedStores [.Tuple [.Name x px, .Name y py, .Name z pz] k pt] (.Tuple [a, b, c] k2 pt2) X.env = pure (some [x, y, z]))
    (hs : swapsWithSole [.Tuple [.Name x px, .Name y py, .Name z pz] k pt] (.Tuple [a, b, c] k2 pt2) pos.line X.env = pure false := by rfl) :
    SD X E md (.Assign [.Tuple [.Name x px, .Name y py, .Name z pz] k pt] (.Tuple [a, b, c] k2 pt2) pos) (sParN [(i, A), (j, B), (l, C)]) :=
  PS.imp (ps_par3 hc hN hi hj hl hij hil hjl hx hy hz ha hw hs) fun D σ H ⟨P, W, ρ, w, g⟩ => by
    have core := parN_core (is := [i, j, l]) hk [(i, A), (j, B), (l, C)] [] (fun p h => by simp at h; rcases h with rfl | rfl | rfl <;> simp) (fun _ h => by cases h) w (Step.refl P W H) (fun _ h => by cases h) List.Pairwise.nil g
    obtain ⟨P1, W1, ρ1, w1, go⟩ := core
    refine ⟨P1, W1, ρ1, w1, go.mono fun u H1 ⟨P2, W2, ρ2, w2, go2⟩ => ⟨P2, W2, ρ2, w2, go2.mono fun v H2 ⟨P3, W3, ρ3, w3, go3⟩ => ⟨P3, W3, ρ3, w3, go3.mono fun w' H3 ⟨P6, W6, ρ6, _, w6, fin⟩ => ?_⟩⟩⟩
    exact ⟨u, v, w', rfl, fin P6 W6 H3 (Step.refl P6 W6 H3) w6⟩
end
section
variable {ΦS : Fl → Prop} {Ψ : Exn → Env → Prop} {ρ : Env} {A : OM} {i : Nat}
theorem s_parN (As : List (Nat × OM)) : sat (sParN As ρ) ΦS Ψ = sat (parM As [] ρ) ΦS Ψ := rfl
theorem s_parMc (r : List (Nat × OM)) (q : List (Nat × T)) : sat (parM ((i, A) :: r) q ρ) ΦS Ψ = sat (A ρ) (fun a => rootT a.1 = true ∧ cps (q ++ [(i, a.1)]) fun q' => sat (parM r q' a.2) ΦS Ψ) Ψ := by
  show sat (A ρ >>= fun a => if rootT a.1 = true then parM r (q ++ [(i, a.1)]) a.2 else .fail) _ _ = _
  rw [sat_bind]; congr 1; funext a; rw [sat_iteF]; rfl
def exSets : List (Nat × T) → Env → (Env → Prop) → Prop
  | [], ρ, Φ => Φ ρ
  | p :: q, ρ, Φ => ex (setE ρ p.1 (some p.2)) fun ρ' => exSets q ρ' Φ
theorem exSets_eq : ∀ (q : List (Nat × T)) (ρ : Env) (Φ : Env → Prop), exSets q ρ Φ = ((q.all fun p => decide (p.1 < ρ.length)) = true ∧ Φ (setT_ q ρ))
  | [], ρ, Φ => by simp [exSets, setT_]
  | p :: q, ρ, Φ => by
    unfold exSets
    rw [ex_setE, exSets_eq q]
    simp only [List.all_cons, Bool.and_eq_true, decide_eq_true_eq, List.length_set, setT_, List.foldl_cons, and_assoc]
theorem s_parMn (q : List (Nat × T)) : sat (parM [] q ρ) ΦS Ψ = exSets q ρ fun ρ' => ΦS (.nx ρ') := by
  rw [exSets_eq]
  show sat (if _ then _ else _) _ _ = _
  rw [sat_iteF]; rfl
theorem c_app0 {α : Type} (y : α) {Φ : List α → Prop} : cps ([] ++ [y]) Φ = Φ [y] := rfl
theorem c_app1 {α : Type} (a y : α) {Φ : List α → Prop} : cps ([a] ++ [y]) Φ = Φ [a, y] := rfl
theorem c_app2 {α : Type} (a b y : α) {Φ : List α → Prop} : cps ([a, b] ++ [y]) Φ = Φ [a, b, y] := rfl
theorem c_app3 {α : Type} (a b c y : α) {Φ : List α → Prop} : cps ([a, b, c] ++ [y]) Φ = Φ [a, b, c, y] := rfl
theorem x_sets0 {Φ : Env → Prop} : exSets [] ρ Φ = Φ ρ := rfl
theorem x_setsc (p : Nat × T) (q : List (Nat × T)) {Φ : Env → Prop} : exSets (p :: q) ρ Φ = ex (setE ρ p.1 (some p.2)) fun ρ' => exSets q ρ' Φ := rfl
end
end Od
namespace Od
open PySem PySem.Spec L2
open PyProof.Rows hiding St cutD
/-! ### s * n -/
def repT (s : Tx) (n : Nat) : Tx := (List.replicate n s).flatten
theorem repT_succ (s : Tx) (n : Nat) : repT s (n + 1) = s ++ repT s n := by unfold repT; rw [List.replicate_succ, List.flatten_cons]
theorem fold_rep (x : Array Nat) : ∀ (k : Nat) (acc : Array Nat), ((List.replicate k x).foldl (· ++ ·) acc).toList = acc.toList ++ repT x.toList k
  | 0, acc => by simp [repT]
  | k + 1, acc => by
    rw [List.replicate_succ, List.foldl_cons, fold_rep x k, repT_succ]
    simp
theorem mul_rep (s : Tx) (n : Int) : Txt.mul (sT s) n = sT (repT s n.toNat) := by
  have key : (Txt.mul (sT s) n).cps.toList = repT s n.toNat := by
    unfold Txt.mul
    by_cases h1 : n < 1
    · rw [if_pos h1, show n.toNat = 0 by omega]; rfl
    · rw [if_neg h1]
      by_cases h2 : (n == 1 || (sT s).length == 0) = true
      · rw [if_pos h2, sT_cps]
        simp only [Bool.or_eq_true, beq_iff_eq] at h2
        rcases h2 with h2 | h2
        · subst h2; simp [repT]
        · have : s = [] := List.length_eq_zero_iff.mp (by rw [← sT_len]; exact h2)
          subst this
          unfold repT
          simp
      · rw [if_neg h2]
        show ((List.replicate n.toNat (sT s).cps).foldl (· ++ ·) #[]).toList = _
        rw [fold_rep, sT_cps]; simp
  have := sT_of (Txt.mul (sT s) n)
  rw [key] at this
  exact this.symm
def fRepS : D → D → Option D
  | .str s, .int n => if (n < 1000000 ∧ -1000000 < n ∧ s.length ≤ 1000000 ∧ s.length * n.toNat ≤ 1000000) then some (.str (repT s n.toNat)) else none
  | _, _ => none
def rRepS : R2 := fun x y H Q => ∃ (z : Str) (n : Int), x = .str z ∧ y = .int n ∧ MulOk z n ∧ Q (.str (Txt.mul z n)) H
theorem op_repS {X : Cx} : OpR X (binaryOp .Mult) rRepS := by
  intro pins s σ H x y v u Q I r1 r2 ⟨z, n, e1, e2, ok, q⟩
  subst e1 e2
  obtain ⟨t, rfl⟩ := r1
  obtain ⟨t', rfl⟩ := r2
  exact SB.mul ok fun t2 k => ⟨.str _, H, I.tok k, ⟨t2, rfl⟩, q⟩
theorem f_repS {K : PySem.W.Frag} : Op2V K rRepS fRepS := fun P H x y d e res Q s v1 v2 hf q => by
  unfold fRepS at hf
  split at hf
  · rename_i a n
    split at hf
    · rename_i hc
      cases hf
      obtain ⟨h1, h2, h3, h4⟩ := hc
      refine ⟨_, _, vstr v1, vint v2, ⟨?_, fun hn _ => ?_, fun hn _ => ?_⟩, ?_⟩
      · rw [decide_eq_false (by omega), decide_eq_false (by omega)]; rfl
      · have : (1000000 : Int) ≤ (2 ^ 63 - 1) / n := Int.le_ediv_of_mul_le (by omega) (by omega)
        rw [sT_len]; omega
      · rw [sT_len]; unfold Builtin.Str.tooLong; rw [decide_eq_false]; exact Nat.not_lt.mpr (Nat.le_trans h4 (by decide))
      · rw [mul_rep]; exact q _ P H (Al.refl s) (by unfold Den; rfl)
    · cases hf
  · cases hf
theorem x_repS (s : Tx) (n : Int) {Φ : D → Prop} : ex (fRepS (.str s) (.int n)) Φ = ((n < 1000000 ∧ -1000000 < n ∧ s.length ≤ 1000000 ∧ s.length * n.toNat ≤ 1000000) ∧ Φ (.str (repT s n.toNat))) := by show ex (if _ then _ else _) _ = _; rw [ex_ite]; rfl
end Od
namespace Od
open PySem PySem.Spec L2
open PyProof.Rows hiding St cutD
/-! ### enumerate over a text -/
end Od
namespace Od
open PySem PySem.Spec L2
open PyProof.Rows hiding St cutD
/-! ### sorted(xs) -/
end Od
namespace Od
open PySem PySem.Spec L2
open PyProof.Rows hiding St cutD
/-! ### an exception that is made and kept -/
section
variable {X : Cx} {E W : WX} {e : Expr} {F : EM} {x f : Tx} {n : Str} {p pos : Pos} {rs ts fl : List Tx}
end
/-! ### constants of the program -/
def GlD (K : PySem.W.Frag) (mg : Str → Option Value) (x : Str) (d : D) : Prop := ∃ v u, mg x = some u ∧ RelV v u ∧ ∀ P, Den K P d v
theorem ev_gl {X : Cx} {E : WX} {d : D} {x : Str} {pos : Pos} (h : GlD X.K X.mg x d) (hg : Gl X x) (hdb : (x == ("__debug__" : Str)) = false := by decide) : EV X E (.Name x pos) (eC d) := by
  obtain ⟨v, u, hm, r, k⟩ := h
  exact ev_glob hg hm r k hdb
section
variable {K : PySem.W.Frag} {mg : Str → Option Value} {x : Str}
theorem gl_str {s : Tx} {t : Tok} (h : mg x = some (.str (sT s) t)) : GlD K mg x (.str s) := ⟨.str (sT s), _, h, ⟨t, rfl⟩, fun P => by unfold Den; rfl⟩
theorem gl_int {i : Int} {t : Tok} (h : mg x = some (.int i t)) : GlD K mg x (.int i) := ⟨.int i, _, h, ⟨t, rfl⟩, fun P => by unfold Den; rfl⟩
theorem gl_tup {a : Addr} {o : Obj} {its : List Value} {n : Nat} {ss : List Tx} (h : mg x = some (.ref a)) (hk : K.lookup a = some o) (hc : o.cls = .type "tuple") (hd : o.data = .seq its.toArray n) (hl : its.length ≤ sizeLine) (hv : Vals (ss.map fun s => V.str (sT s)) its) : GlD K mg x (.tup (ss.map .str)) := by
  refine ⟨.ref a, _, h, rfl, fun P => ?_⟩
  unfold Den
  refine ⟨a, _, rfl, .inr ⟨o, its.toArray, n, hk, hc, hd, by simpa using hl, by simpa using hv⟩, ?_⟩
  clear hv h
  induction ss with
  | nil => exact DenL.nil
  | cons s r ih => exact DenL.cons (by unfold Den; rfl) ih
end
end Od
namespace Od
open PySem PySem.Spec L2
open PyProof.Rows hiding St cutD
/-! ### a, b, .. = a list -/
section
variable {X : Cx} {sl : List Nat} {es : List Expr} {gs : List GM} {pos : Pos}
end
end Od
namespace Od
open PySem PySem.Spec L2
open PyProof.Rows hiding St cutD
/-! ### list(range(..)) -/
section
variable {X : Cx} {E : WX} {e e2 : Expr} {F G : EM} {p p2 q pos : Pos}
end
section
variable {Ψ : Exn → Env → Prop} {ρ : Env} {ΦT : T × Env → Prop} {F G : EM} {ΦL : List D → Prop}
end
end Od
/-! set(xs) of a list of texts -/
namespace StSet
open PySem PySem.Spec PyProof.Rows
/-- the unlike ones, as they are met -/
def add1 (acc : List Str) (x : Str) : List Str := if acc.any (· == x) = true then acc else acc ++ [x]
def met (xs : List Str) : List Str := xs.foldl add1 []
theorem met_snoc (xs : List Str) (x : Str) : met (xs ++ [x]) = add1 (met xs) x := by unfold met; rw [List.foldl_append]; rfl
theorem add1_any (acc : List Str) (x k : Str) : (add1 acc x).any (· == k) = (acc.any (· == k) || decide (k = x)) := by
  unfold add1
  by_cases h : acc.any (· == x) = true
  · rw [if_pos h]
    by_cases e : k = x
    · subst e; rw [h]; rfl
    · rw [decide_eq_false e, Bool.or_false]
  · rw [if_neg h, List.any_append]
    congr 1
    by_cases e : k = x
    · subst e; simp
    · have : (x == k) = false := beq_eq_false_iff_ne.mpr fun z => e z.symm
      simp [this, e]
theorem add1_len (acc : List Str) (x : Str) : (add1 acc x).length = if acc.any (· == x) = true then acc.length else acc.length + 1 := by
  unfold add1; split <;> simp
theorem met_le (xs : List Str) : (met xs).length ≤ xs.length := by
  rw [← List.reverse_reverse xs]
  induction xs.reverse with
  | nil => exact Nat.le_refl 0
  | cons x r ih =>
    rw [List.reverse_cons, met_snoc, add1_len, List.length_append]
    split <;> simp only [List.length_singleton] <;> omega
/-- T is the set of the texts xs -/
def Of (P : Program) (w : World) (h : Heap) (T : Addr) (xs : List Str) : Prop := h.SetOf (strKind P w) T (fun k => (met xs).any (· == k)) (met xs).length
theorem Of.kp {P : Program} {w : World} {h h' : Heap} {T : Addr} {xs : List Str} (q : Of P w h T xs) (k : ∀ o, h.get? T = some o → h'.get? T = some o) : Of P w h' T xs := by
  obtain ⟨o, es, ep, t, ho, r⟩ := q
  exact ⟨o, es, ep, t, k o ho, r⟩
section
variable {P : Program} {w : World} {A : Around} {R : Result → Shared → Prop} {it : Addr} {fp wr : List Addr} {G : Array GenState → Array GenState → Prop} {n : Nat} {V : Nat → Value → Prop} {St : Nat → Shared → Prop}
theorem fill (W : WalksS P w A.in1 it fp wr G n V St) (T : Addr) (hT : T ∉ fp) (xs : List Str) (en : xs.length = n) (small : n < 4000)
    (get : ∀ i v, V i v → ∃ t, v = .str (xs.getD i Str.empty) t) (j : Nat) :
    ∀ (i : Nat) (s : Shared), i + j = n → St i s → Of P w s.heap T (xs.take i) → (∀ s', Moved (T :: wr) G s s' → Of P w s'.heap T xs → R (.ok (.ret .none)) s') →
      codeAny (model P w) A (.builtin "set.update.loop" ⟨[.ref T, .ref it], []⟩) R s := by
  have off : T ∉ wr := fun h => hT (W.sub _ h)
  have wide : ∀ b ∈ wr, b ∈ T :: wr := fun b h => .tail _ h
  induction j with
  | zero =>
    intro i s e at_ of k
    obtain rfl : i = n := e
    rw [← en, List.take_length] at of
    refine codeAny_builtin F.entry_set_update_loop ?_; rw [Around.under_plainId F.plain_set_update_loop _]
    show wpAny _ _ (pyNext (.ref it) >>= _) _ _ _
    refine wpAny_bind (W.done s _ _ at_ fun s1 mv => ?_)
    show wpAny _ _ (ret Value.none) _ _ _
    exact wpAny_pure (k s1 (mv.mono wide) (of.kp fun o g => mv.heap T o off g))
  | succ j ih =>
    intro i s e at_ of k
    have li : i < n := by omega
    refine codeAny_builtin F.entry_set_update_loop ?_; rw [Around.under_plainId F.plain_set_update_loop _]
    show wpAny _ _ (pyNext (.ref it) >>= _) _ _ _
    refine wpAny_bind (W.item i s _ _ li at_ fun v s1 hv at1 mv => ?_)
    obtain ⟨t, rfl⟩ := get i v hv
    have ex : xs.getD i Str.empty = xs[i]'(by omega) := by rw [List.getD_eq_getElem?_getD, List.getElem?_eq_getElem (by omega)]; rfl
    have tk : xs.take (i + 1) = xs.take i ++ [xs.getD i Str.empty] := by rw [ex, List.take_succ, List.getElem?_eq_getElem (by omega)]; rfl
    generalize xs.getD i Str.empty = x at *
    have lm := met_le (xs.take i)
    rw [List.length_take] at lm
    have of1 : Of P w s1.heap T (xs.take i) := of.kp fun o g => mv.heap T o off g
    show wpAny _ _ (holding [Value.str x t] (setAdd T (.str x t)) >>= _) _ _ _
    refine wpAny_bind (wpAny_holding ?_)
    unfold setAdd
    refine wpAny_holding (wpAny_bind ((strKind P w).pyHash (k := x) (strKind_is _ _ _ _) ?_))
    refine wpAny_setAddHashed_of (s := ⟨s1.heap, s1.gens, s1.drawn, s1.toks + 1, s1.os⟩) (strKind_is _ _ _ _) rfl of1 (by unfold scanBound; omega) fun h2 only of2 => ?_
    have of3 : Of P w h2 T (xs.take (i + 1)) := by
      unfold Of
      rw [tk, met_snoc]
      exact SetOf_congr of2 (fun k => (add1_any _ x k).symm) (add1_len _ x).symm
    refine wpAny_pure ⟨plainId_quiet F.plain_set_update_loop _, ih (i + 1) _ (by omega) (W.frame _ s1 _ _ at1 (Nat.le_succ _) fun b hb o g => ?_) of3 fun s3 mv3 of4 => ?_⟩
    · rw [only.2 b fun z => hT (z ▸ hb)]; exact g
    · refine k s3 (Moved.trans W.gtrans ((mv.mono wide).then_heap (Nat.le_succ _) fun b o hb g => ?_) mv3) of4
      rw [only.2 b fun z => hb (z ▸ .head _)]; exact g
end
section
variable {P : Program} {w : World} {A : Around} {E : Value → Shared → Prop} {s : Shared}
/-- a set that is just made -/
abbrev raw (b : Bool) : Obj := { cls := .type "set", dict := none, data := .set #[] 0 (.fresh 0 0 b) }
theorem raw_of {h : Heap} {T : Addr} {b : Bool} (g : h.get? T = some (raw b)) : Of P w h T [] :=
  SetOf_congr ((setObjOf_fresh (knd := strKind P w) b).setOf g (by unfold scanBound; omega)) (fun _ => rfl) rfl
theorem call {l : Addr} {its : Array Value} {xs : List Str} {Q : Value → Shared → Prop} (hh : A.handled = none) (hl : s.heap.IsList l its) (sv : StrsAre its.toList xs) (small : xs.length < 4000)
    (k : ∀ (h2 : Heap) (t : Nat), Of P w h2 s.heap.objs.size xs → (∀ b o, b < s.heap.objs.size → s.heap.get? b = some o → h2.get? b = some o) → Q (.ref s.heap.objs.size) { s with heap := h2, toks := t }) :
    wpAny (model P w) A (PySem.call (.type "set") [.ref l]) Q E s := by
  obtain ⟨_, _, mro_⟩ := PySem.F.called_set.mro
  have a1 := PySem.F.called_set.made; have a2 := PySem.F.called_set.sub; have a3 := PySem.F.called_set.notType; have a4 := PySem.F.called_set.canCreate; have a5 := PySem.F.typeCall_set_1 (.ref l)
  refine wpAny_call (codeAny_of_tree ?_); show wpAny _ _ (callAny (.type "set") _) _ _ _
  refine wpAny_pure ⟨Code.quiet_builtin _ (by decide +kernel), ?_⟩
  refine codeAny_builtin PySem.F.entry_type_call ?_
  rw [Around.under_plain (weight_type_call_type "set" [.ref l] []) rfl]
  repeat (any_goals (first | assumption | wp_step))
  have new : ∀ b : Bool, (s.heap.push (raw b)).get? s.heap.objs.size = some (raw b) := fun b => Heap.get?_push_size _ rfl
  refine codeAny_mono (code_set_new_1 (.ref l) (E := E) (Q₁ := fun v s1 => ∃ b, v = .ref s.heap.objs.size ∧ s1 = { s with heap := s.heap.push (raw b) }) fun b => ⟨b, rfl, rfl⟩) ?_
  rintro (e | f) s1 q1
  · exact q1
  cases f with
  | ret v =>
    obtain ⟨b, rfl, rfl⟩ := q1
    have ty : Shared.TypeIs { s with heap := s.heap.push (raw b) } (.ref s.heap.objs.size) "set" := ⟨_, new b, rfl⟩
    have a6 := PySem.F.called_set.init.lookup; have a7 := PySem.F.called_set.init.bind (.ref s.heap.objs.size)
    repeat (any_goals (first | assumption | wp_step))
    refine codeAny_mono (codeAny_call_builtin (R := wants (fun r s2 => r = .none ∧ ∃ h2 t, s2 = { s with heap := h2, toks := t } ∧ Of P w h2 s.heap.objs.size xs ∧ ∀ b o, b < s.heap.objs.size → s.heap.get? b = some o → h2.get? b = some o) E)
      PySem.F.called_set.init.plain PySem.F.entry_set_init (check_set_init_1 ty ?_)) ?_
    · obtain ⟨⟨oc, od, da, osl⟩, g, rfl, m, rfl⟩ := hl
      have ll : l < s.heap.objs.size := Heap.lt_size g
      have b1 := PySem.F.sub_list_set; have b2 := PySem.F.sub_list_frozenset
      have b3 : (Value.type "list" == Value.type "dict") = false := by decide
      have isl : (s.heap.push (raw b)).IsList l its := ⟨_, Heap.get?_push_of_some _ g, rfl, m, rfl⟩
      have sz : xs.length = its.size := by rw [← StrsAre.len_eq sv, Array.length_toList]
      unfold Builtin.«set.__init__» noKeywords Builtin.Frozenset.updateFrom; generalize hI : pyIter = I_
      wp_walk
      subst hI
      refine wpAny_pyIter_list isl (wpAny_bind (wpAny_runValue ?_))
      have top : (s.heap.push (raw b)).objs.size = s.heap.objs.size + 1 := Heap.size_push _ _
      refine fill ((Walks.list (by simp [hh]) _ l (by rw [top]; exact Nat.ne_of_lt (Nat.lt_succ_of_lt ll)) its).toS) s.heap.objs.size ?_ xs sz (by omega) (fun i v hv => SS.strs_at sv i v (by rw [Array.getElem?_toList]; exact hv)) its.size 0 _ (by omega) ⟨⟨_, Heap.get?_push_size _ rfl, rfl, rfl⟩, isl.push _⟩ ?_ ?_
      · rw [top]
        simp only [List.mem_cons, List.not_mem_nil, or_false, not_or]
        exact ⟨Nat.ne_of_lt (Nat.lt_succ_self _), Nat.ne_of_gt ll⟩
      · rw [List.take_zero]
        exact raw_of (b := b) (Heap.get?_push_of_some _ (new b))
      · rintro ⟨h2, g2, d2, t2, o2⟩ mv of
        obtain rfl : g2 = s.gens := mv.gens
        obtain rfl : d2 = s.drawn := mv.drawn
        obtain rfl : o2 = s.os := mv.os
        show wpAny _ _ _ _ _ _
        refine wpAny_pure ?_
        show wpAny _ _ (ret Value.none) _ _ _
        refine wpAny_pure ⟨rfl, h2, t2, rfl, of, fun c o hc e => mv.heap c o ?_ (Heap.get?_push_of_some _ (Heap.get?_push_of_some _ e))⟩
        rw [top]
        simp only [List.mem_cons, List.not_mem_nil, or_false, not_or]
        exact ⟨Nat.ne_of_lt hc, Nat.ne_of_lt (Nat.lt_succ_of_lt hc)⟩
    · rintro (e | f) s2 q2
      · exact q2
      cases f with
      | ret r =>
        obtain ⟨rfl, h2, t, rfl, of, kp⟩ := q2
        repeat (any_goals (first | assumption | wp_step))
        exact k _ _ of kp
      | _ => exact q2.elim
  | _ => exact q1.elim
end
end StSet
namespace L2
open PySem PySem.Spec PyProof.Rows
section
variable {X : Cx}
end
end L2
namespace Od
open PySem PySem.Spec L2
open PyProof.Rows hiding St cutD
section
variable {X : Cx} {E : WX} {e : Expr} {A : HM} {p p2 q pos : Pos}
end
end Od
namespace Od
open PySem PySem.Spec L2
open PyProof.Rows hiding St cutD
theorem x_ixdi (ks : List DK) (vs : List D) (i : Int) {Φ : D → Prop} : ex (fIdx (.dct ks vs) (.int i)) Φ = ex (kLook ks vs (.inl i)) Φ := rfl
/-! ### the order of sorted -/
end Od
namespace Od
open PySem PySem.Spec L2
open PyProof.Rows hiding St cutD
/-! ### try: B except c: S -/
section
variable {X : Cx} {E : WX} {md : List Bool} {c : Tx} {body suite : List Stmt} {b₀ : Stmt} {np pos pos' : Pos} {B S : SM} {rs ts fl : List Tx} {cn : Str}
end
section
variable {ΦS : Fl → Prop} {Ψ : Exn → Env → Prop} {ρ : Env} {S B : SM}
end
end Od
namespace Od
open PySem PySem.Spec L2
open PyProof.Rows hiding St cutD
/-! ### a comprehension over a list of a variable's own: the variable is out of reach meanwhile -/
section
variable {K : PySem.W.Frag} {mg : Str → Option Value} {P H : Hp} {W : Own} {σ : St} {ρ : Env} {i : Nat} {A : Addr}
end
section
variable {X : Cx} {E : WX}
end
section
variable {X : Cx} {E : WX} {md : List Bool} {elt tg : Expr} {ifs : List Expr} {scope : Scope} {own : List (Str × Nat)} {pos np : Pos} {g : GM} {C : BM} {F : EM} {sl : List Nat} {i : Nat} {x : Str}
end
section
variable {Ψ : Exn → Env → Prop} {ρ : Env} {ΦT : T × Env → Prop} {C : BM} {F : EM}
end
end Od
namespace Od
open PySem PySem.Spec L2 PySem.W PySem
open PyProof.Rows hiding St cutD
/-! ### the law's call, where no text of a list is in the making -/
section
variable {P : Program} {w : World} {K : PySem.W.Frag} {mg mb : Str → Option Value} {CX : CXT} {k : Nat} {fa a : Addr} {fd : FuncData} {x : Str} {sp : Sp} {s : Shared} {vs : List Value} {ns : List Int}
/-- H tracks nothing but the script -/
structure Lone (K : PySem.W.Frag) (H : Hp) (a : Addr) : Prop where
  only : Only H
  at_ : ∀ b, b ≠ a → H b = none
  own : K.lookup a = none ∨ H a = none
theorem lone_go {H : Hp} (L : Lone K H a) (kin : K.In s.heap) (nm : s.heap.Ns mainGlobals mg) (nb : s.heap.Ns builtinsNs mb) (bb : ∀ x : Str, x ≠ "__name__" → mb x = bootBuiltins x) (nl : s.heap.NoLimit) (gn : s.gens = #[])
    (ga : s.heap.get? a = some { cls := .type "list", data := .seq vs.toArray }) (hr : RoomG k callerA) (ok : HOk P w H s.heap)
    (F : ∀ base : Heap, K.In base → base.Ns mainGlobals mg → FnG P w K mg base CX k fa fd [x] sp) (bt : ∀ (s : Shared) (u : Value), BindsTo s fd ⟨[u], []⟩ [(x, u)])
    (hsp : sp [.ref a] H (fun v _ => v = .bl true) fun _ _ _ => False) (hCX : ∀ e t, CX [] H s (fun _ _ _ => False) e t → False) :
    codeAny (model P w) callerA (.call (.ref fa) ⟨[.ref a], []⟩) (fun r t => r = .ok (.ret (.bool true)) ∧ OldK s.heap t.heap ∧ t.os = s.os ∧ AllBare t.gens) s := by
  have dicts : ∀ {b : Addr} {o : Obj} {es : Array DictEntry} {ep : Nat}, s.heap.get? b = some o → o.data = .dict es ep → (hidT s.heap H).get? b = some o := by
    intro b o es ep e d
    refine hidT_get e ?_
    by_cases hb : b = a
    · subst hb
      rw [ga] at e
      obtain rfl := Option.some.inj e
      exact absurd d (by intro z; cases z)
    · exact L.at_ b hb
  have spaces : ∀ {b : Addr} {m : Str → Option Value}, s.heap.Ns b m → (hidT s.heap H).Ns b m := by
    rintro b m ⟨o, es, ep, e, d, r⟩
    exact ⟨o, es, ep, dicts e d, d, r⟩
  have kb : K.In (hidT s.heap H) := by
    intro b o e
    refine hidT_get (kin b o e) ?_
    by_cases hb : b = a
    · subst hb
      rcases L.own with z | z
      · rw [z] at e; cases e
      · exact z
    · exact L.at_ b hb
  have md : Mod K mg (hidT s.heap H) := by
    obtain ⟨mc, u1, u2⟩ := nl
    exact ⟨kb, spaces nm, ⟨mb, spaces nb, bb⟩, ⟨mc, spaces u1, u2⟩⟩
  have e0 : Env0 P w K mg (hidT s.heap H) callerA [] s H := by
    refine ⟨rfl, md, fun b o e => of_hidT e, Nat.le_of_eq (hidT_size _ _), trivial, ?_, ok, .of_eq gn⟩
    intro b hb
    exact absurd hb List.not_mem_nil
  refine codeAny_mono ((F _ kb (spaces nm)).go (us := [.ref a]) hr e0 (bt s (.ref a)) (.cons (show RelV (.ref a) (.ref a) from rfl) .nil) hsp) ?_
  rintro (e | fl) t z
  · exact (hCX e t z).elim
  · cases fl with
    | next => exact z.elim
    | brk => exact z.elim
    | cont => exact z.elim
    | ret u =>
      obtain ⟨v, H2, os, bare, un, ok2, rv, qv⟩ := z
      have qv : v = .bl true := qv
      subst qv
      have rv : u = Value.bool true := rv
      subst rv
      refine ⟨rfl, OldK.of_keep ?_, os, bare⟩
      intro b o e
      rcases L.only b with n | ⟨ob, xs, n⟩
      · exact un.keep b o e n (fun z => absurd z List.not_mem_nil) (by simp)
      · obtain ⟨e1, _⟩ := ok b _ n
        obtain ⟨e2, _⟩ := ok2 b _ (un.frzs b ob _ n)
        rw [e] at e1
        obtain rfl := Option.some.inj e1
        exact e2
theorem law_callG (kin : K.In s.heap) (nm : s.heap.Ns mainGlobals mg) (nb : s.heap.Ns builtinsNs mb) (bb : ∀ x : Str, x ≠ "__name__" → mb x = bootBuiltins x) (nl : s.heap.NoLimit) (gn : s.gens = #[])
    (ga : s.heap.get? a = some { cls := .type "list", data := .seq vs.toArray }) (hi : IntsAre vs ns) (hl : ns.length ≤ sizeLine) (hr : RoomG k callerA)
    (F : ∀ base : Heap, K.In base → base.Ns mainGlobals mg → FnG P w K mg base CX k fa fd [x] sp) (bt : ∀ (s : Shared) (u : Value), BindsTo s fd ⟨[u], []⟩ [(x, u)])
    (hsp : ∀ H : Hp, Only H → SqL K H a (ns.map V.int) → sp [.ref a] H (fun v _ => v = .bl true) fun _ _ _ => False) (hCX : ∀ H e t, CX [] H s (fun _ _ _ => False) e t → False) :
    codeAny (model P w) callerA (.call (.ref fa) ⟨[.ref a], []⟩) (fun r t => r = .ok (.ret (.bool true)) ∧ OldK s.heap t.heap ∧ t.os = s.os ∧ AllBare t.gens) s := by
  have rv := vals_ints hi
  have ln := hi.length
  cases hk : K.lookup a with
  | some o =>
    have e := kin a o hk
    rw [ga] at e
    obtain rfl := Option.some.inj e
    have L : Lone K (fun _ => none) a := ⟨fun _ => Or.inl rfl, fun _ _ => rfl, Or.inr rfl⟩
    refine lone_go L kin nm nb bb nl gn ga hr (fun b u z => by cases z) F bt (hsp _ L.only (Or.inr ⟨_, vs.toArray, _, hk, rfl, rfl, rfl, ?_, ?_⟩)) (hCX _)
    · rw [List.size_toArray, ln]; exact hl
    · simpa using rv
  | none =>
    let H : Hp := fun b => if b = a then some (.frz { cls := .type "list", data := .seq vs.toArray } (.lst (ns.map V.int))) else none
    have ha : H a = some (.frz { cls := .type "list", data := .seq vs.toArray } (.lst (ns.map V.int))) := if_pos rfl
    have hn : ∀ b, b ≠ a → H b = none := fun b z => if_neg z
    have L : Lone K H a := by
      refine ⟨fun b => ?_, hn, Or.inl hk⟩
      by_cases hb : b = a
      · subst hb; exact Or.inr ⟨_, _, ha⟩
      · exact Or.inl (hn b hb)
    refine lone_go L kin nm nb bb nl gn ga hr (fun b u z => ?_) F bt (hsp H L.only (Or.inl (Or.inr ⟨_, ha⟩))) (hCX _)
    by_cases hb : b = a
    · subst hb
      rw [ha] at z
      obtain rfl := Option.some.inj z
      exact ⟨ga, by rw [List.length_map]; exact hl, vs, _, rv, ga⟩
    · rw [hn b hb] at z; cases z
end
theorem walkG {l : PySem.W.OpenLaw} {n k : Nat} {q : Program} {loose : List Str} {XP : (Str → Option Value) → Heap → Prop} {YP : World → Heap → Prop} {d : DefRec} {K : Params → PySem.W.Frag} {CX : World → CXT} {sp : World → Sp} {x : Str}
    (hn : l.most = some n) (hn2 : n ≤ sizeLine) (hdf : d.params.defaults = []) (hr : RoomG k callerA) (hY : ∀ (w : World) (h : Heap), YP w h → (K w.params).In h)
    (F : ∀ (w : World) (mg : Str → Option Value) (fa : Addr) (h : Heap), (K w.params).In h → h.Ns mainGlobals mg → mg d.name = some (.ref fa) → ∃ fd : FuncData, (∀ (s : Shared) (u : Value), BindsTo s fd ⟨[u], []⟩ [(x, u)]) ∧
      ∀ base : Heap, (K w.params).In base → base.Ns mainGlobals mg → FnG l.prog w (K w.params) mg base (CX w) k fa fd [x] (sp w))
    (hsp : ∀ (w : World) (H : Hp) (a : Addr) (ns : List Int), ns.length ≤ n → Only H → SqL (K w.params) H a (ns.map V.int) → sp w [.ref a] H (fun v _ => v = .bl true) fun _ _ _ => False)
    (hCX : ∀ (w : World) (H : Hp) (s : Shared) (e : Value) (t : Shared), CX w [] H s (fun _ _ _ => False) e t → False) : PySem.W.WalkO q loose XP YP l.row.toRowW d [] (fun f vs => PySem.call f vs) := by
  refine Att.attach_call hn hdf ?_
  intro w s₀ s mg mb fa o pm cd doc a vs ns G Y ho hd hcd hmg hx hy hz hw
  obtain ⟨fd, bt, Fb⟩ := F w mg fa _ (hY w _ Y) G.T.g hmg
  exact law_callG (hY w _ Y) G.T.g G.T.b G.T.builtins G.T.nolimit hw hx hy (Nat.le_trans hz hn2) hr Fb bt (fun H on S => hsp w H a ns hz on S) fun H e t => hCX w H s e t
end Od
namespace Od
open PySem PySem.Spec L2 PySem.W PySem
open PyProof.Rows hiding St cutD
/-! ### str(x) -/
mutual
/-- a bound of the text's length -/
def D.shW : D → Nat
  | .int i => if i.natAbs < 10 ^ 30 then 31 else 20000000
  | .str s => 10 * s.length + 2
  | .tup ds => D.shWL ds + 3
  | .lst ds => D.shWL ds + 3
  | .rol ds => D.shWL ds + 3
  | _ => 5
def D.shWL : List D → Nat
  | [] => 0
  | d :: ds => D.shW d + 2 + D.shWL ds
end
def okS (d : D) : Bool := d.ok && decide (d.dep ≤ 60) && decide (d.shW ≤ 10000000)
/-- what str gives -/
def strD : PyData → Str
  | .str x => x
  | d => d.shown
def shT (d : D) : Tx := (strD d.py).cps.toList
def fStr : List D → Option D
  | [d] => if okS d = true then some (.str (shT d)) else none
  | _ => none
theorem sizeS : sizeLine = 16777216 := rfl
mutual
theorem shown_ok : ∀ d : D, d.ok = true → d.shW ≤ 10000000 → d.py.showable = true ∧ d.py.hasDict = false ∧ d.py.shown.length ≤ d.shW
  | .non, _, _ => ⟨rfl, rfl, by decide⟩
  | .bl b, _, _ => ⟨rfl, rfl, by cases b <;> decide⟩
  | .int i, _, h => by
    unfold D.shW at h
    split at h
    · rename_i hi
      refine ⟨?_, rfl, ?_⟩
      · show decide _ = true
        rw [decide_eq_true_eq]
        by_cases h0 : i.natAbs = 0
        · rw [h0]; decide
        · exact (Nat.log2_lt h0).mpr (Nat.lt_of_lt_of_le hi (Nat.le_trans (by decide : 10 ^ 30 ≤ 2 ^ 100) (Nat.pow_le_pow_right (by decide) (by decide))))
      · have := int_text_length_le10 (a := i) (k := 30) (by decide) hi
        unfold D.shW
        rw [if_pos hi]
        show (Str.ofString (toString i)).length ≤ _
        rw [PySem.ofString_length]
        exact this
    · omega
  | .str s, o, _ => by
    refine ⟨rfl, rfl, ?_⟩
    unfold D.ok at o
    have := PySem.StrLaws.reprText_len (sT s) (fun c hc => by
      rw [List.all_eq_true] at o
      have := o c (by simpa [sT] using hc)
      simp at this
      omega)
    rw [sT_len] at this
    exact this
  | .tup ds, o, h => by
    unfold D.ok at o
    have hw : D.shW (.tup ds) = D.shWL ds + 3 := by rw [D.shW]
    rw [hw] at h ⊢
    obtain ⟨a, b, c⟩ := shownL_ok ds o (by omega)
    have := tupleText_len_le (PyData.shownAll (D.pyL ds))
    have e := PyData.shownAll_length (D.pyL ds)
    have hp : D.py (.tup ds) = .tuple (D.pyL ds) := by rw [D.py]
    rw [hp]
    refine ⟨by rw [PyData.showable]; exact a, by rw [PyData.hasDict]; exact b, ?_⟩
    rw [PyData.shown]
    omega
  | .lst ds, o, h => by
    unfold D.ok at o
    have hw : D.shW (.lst ds) = D.shWL ds + 3 := by rw [D.shW]
    rw [hw] at h ⊢
    obtain ⟨a, b, c⟩ := shownL_ok ds o (by omega)
    have := listText_len_le (PyData.shownAll (D.pyL ds))
    have e := PyData.shownAll_length (D.pyL ds)
    have hp : D.py (.lst ds) = .list (D.pyL ds) := by rw [D.py]
    rw [hp]
    refine ⟨by rw [PyData.showable]; exact a, by rw [PyData.hasDict]; exact b, ?_⟩
    rw [PyData.shown]
    omega
  | .rol ds, o, h => by
    unfold D.ok at o
    have hw : D.shW (.rol ds) = D.shWL ds + 3 := by rw [D.shW]
    rw [hw] at h ⊢
    obtain ⟨a, b, c⟩ := shownL_ok ds o (by omega)
    have := listText_len_le (PyData.shownAll (D.pyL ds))
    have e := PyData.shownAll_length (D.pyL ds)
    have hp : D.py (.rol ds) = .list (D.pyL ds) := by rw [D.py]
    rw [hp]
    refine ⟨by rw [PyData.showable]; exact a, by rw [PyData.hasDict]; exact b, ?_⟩
    rw [PyData.shown]
    omega
  | .dct _ _, o, _ => by cases o
  | .exn _ _ _, o, _ => by cases o
  | .obj _ _ _, o, _ => by cases o
  | .fn _, o, _ => by cases o
theorem shownL_ok : ∀ ds : List D, D.okL ds = true → D.shWL ds ≤ 10000000 → PyData.showableAll (D.pyL ds) = true ∧ PyData.hasDictAll (D.pyL ds) = false ∧ ((PyData.shownAll (D.pyL ds)).map (·.length)).sum + 2 * (D.pyL ds).length ≤ D.shWL ds
  | [], _, _ => ⟨rfl, rfl, Nat.le_refl _⟩
  | d :: ds, o, h => by
    unfold D.okL at o
    rw [Bool.and_eq_true] at o
    rw [D.shWL] at h ⊢
    obtain ⟨a, b, c⟩ := shown_ok d o.1 (by omega)
    obtain ⟨a', b', c'⟩ := shownL_ok ds o.2 (by omega)
    rw [D.pyL]
    refine ⟨by rw [PyData.showableAll, a, a']; rfl, by rw [PyData.hasDictAll, b, b']; rfl, ?_⟩
    rw [PyData.shownAll]
    simp only [List.map_cons, List.sum_cons, List.length_cons]
    omega
end
def rStrD (K : PySem.W.Frag) : List V → Hp → VK → Prop := fun vs H Q => ∃ (v : V) (d : PyData), vs = [v] ∧ Dp K H v d ∧ d.showable = true ∧ d.hasDict = false ∧ d.depth ≤ 60 ∧ d.shown.length ≤ sizeLine ∧ Q (.str (strD d)) H
theorem cr_strD {X : Cx} (hg : X.A.guards = some []) (hu : X.A.units + 65 < cLine) : CallR X (.type "str") (rStrD X.K) := by
  intro pins s σ H vs us Q I r h
  obtain ⟨v, d, rfl, dp, sh, nd, dd, sz, q⟩ := h
  obtain ⟨u, rfl, ru⟩ : ∃ u, us = [u] ∧ RelV v u := by
    cases r with
    | cons a b => cases b; exact ⟨_, rfl, a⟩
  obtain ⟨as, rd⟩ := Dp.reads I d v u dp ru
  have obj : ∀ {b : Addr}, u = .ref b → strD d = d.shown → wpAny (model X.prog X.w) X.A (call (.type "str") [u]) (EP X pins σ Q) X.xe s := by
    intro b hb hs
    subst hb
    refine str_of_reads rd sh (fun z => by rw [nd] at z; cases z) hg (by omega) (fun _ _ z => z) ?_ sz
    intro h' t tk kp
    exact ⟨.str (strD d), H, I.kept kp, ⟨t, by rw [hs]⟩, q⟩
  cases dp with
  | non =>
    have ru : u = Value.none := ru
    subst ru
    exact P.str_of_none ⟨.str (strD .none), H, I.tok _, ⟨_, rfl⟩, q⟩
  | bl b =>
    have ru : u = Value.bool b := ru
    subst ru
    exact P.str_of_bool ⟨.str (strD (.bool b)), H, I.tok _, ⟨_, rfl⟩, q⟩
  | int i =>
    obtain ⟨t, rfl⟩ := ru
    exact P.str_of_int (by simpa [PyData.showable] using sh) ⟨.str (strD (.int i)), H, I.tok _, ⟨_, rfl⟩, q⟩
  | str x =>
    obtain ⟨t, rfl⟩ := ru
    exact P.str_of_str ⟨.str (strD (.str x)), H, I, ⟨_, rfl⟩, q⟩
  | lst a b =>
    have ru : u = Value.ref _ := ru
    exact obj ru rfl
  | tup a b =>
    have ru : u = Value.ref _ := ru
    exact obj ru rfl
theorem f_str {K : PySem.W.Frag} : CbV K (rStrD K) fStr := by
  intro P H vs ds res Q s v hf q
  unfold fStr at hf
  split at hf
  · rename_i d
    split at hf
    · rename_i o
      cases hf
      obtain ⟨x, rfl, h⟩ := vl1 v
      unfold okS at o
      simp only [Bool.and_eq_true, decide_eq_true_eq] at o
      obtain ⟨⟨o1, o2⟩, o3⟩ := o
      obtain ⟨a, b, c⟩ := shown_ok d o1 o3
      refine ⟨x, d.py, rfl, view_dp s o1 h, a, b, by rw [(py_ok d o1).2]; exact o2, by rw [sizeS]; omega, ?_⟩
      refine q _ P H (Al.refl s) ?_
      show Den K P (.str (shT d)) _
      unfold Den shT
      rw [sT_of]
    · cases hf
  · cases hf
theorem x_str (d : D) {Φ : D → Prop} : ex (fStr [d]) Φ = (okS d = true ∧ Φ (.str (shT d))) := by show ex (if _ then _ else _) _ = _; rw [ex_ite]; rfl
end Od
namespace Od
open PySem PySem.Spec L2 PySem.W PySem
open PyProof.Rows hiding St cutD
/-! ### text.strip(signs) -/
def stripL (b a : Tx) : Tx := (Txt.stripChars (sT a) (sT b)).cps.toList
def mStrip : D → List D → Option D
  | .str a, [.str b] => if a.length ≤ 1000000 then some (.str (stripL b a)) else none
  | _, _ => none
theorem f_strip {K : PySem.W.Frag} : MtV K (fun x xs H Q => ∃ a b, x = .str a ∧ xs = [.str b] ∧ a.length ≤ sizeLine ∧ Q (.str (Txt.stripChars a b)) H) mStrip := fun P H x vs d ds res Q s v1 v2 hf q => by
  unfold mStrip at hf
  split at hf
  · rename_i a b
    split at hf
    · rename_i ha
      cases hf
      obtain ⟨v, rfl, h⟩ := vl1 v2
      refine ⟨_, _, vstr v1, by rw [vstr h], by rw [sT_len, sizeS]; omega, q _ P H (Al.refl s) ?_⟩
      show Den K P (.str (stripL b a)) _
      unfold Den stripL
      rw [sT_of]
    · cases hf
  · cases hf
theorem x_strip (a b : Tx) {Φ : D → Prop} : ex (mStrip (.str a) [.str b]) Φ = (a.length ≤ 1000000 ∧ Φ (.str (stripL b a))) := by show ex (if _ then _ else _) _ = _; rw [ex_ite]; rfl
theorem has_sT (b : Tx) (c : Nat) : (sT b).cps.contains c = b.contains c := by simp [sT]
theorem getD_sT (a : Tx) (k : Nat) : (sT a).cps.getD k 0 = a.getD k 0 := by rw [← getD_list, sT_cps]
theorem stripL_nil (b a : Tx) : stripL b a = [] ↔ ∀ c ∈ a, c ∈ b := by
  obtain ⟨l1, l2, l3⟩ := lo_facts (sT b).cps.contains (sT a)
  obtain ⟨h1, h2, h3, h4⟩ := hi_facts (sT b).cps.contains (sT a) _ l1
  unfold stripL Txt.stripChars
  rw [PyProof.Rows.stripBy_eq, strSub_mk]
  rw [sT_len] at l1 l3 h2 h3
  generalize stripHi _ _ _ _ = hi at *
  generalize stripLo _ _ _ = lo at *
  simp only [getD_sT, has_sT] at l2 l3 h3 h4
  have mem : ∀ k, k < a.length → a.getD k 0 ∈ a := by
    intro k hk
    rw [List.getD_eq_getElem?_getD, List.getElem?_eq_getElem hk]
    exact List.getElem_mem hk
  have len : (List.take (hi - lo) (List.drop lo (sT a).cps.toList)).length = hi - lo := by
    rw [List.length_take, List.length_drop, sT_cps]
    omega
  constructor
  · intro z c hc
    have zl : hi - lo = 0 := by rw [← len]; simpa using congrArg List.length z
    obtain ⟨k, hk, rfl⟩ := List.getElem_of_mem hc
    have g : b.contains (a.getD k 0) = true := by
      by_cases hkl : k < lo
      · exact l2 k hkl
      · exact h3 k (by omega) hk
    rw [List.getD_eq_getElem?_getD, List.getElem?_eq_getElem hk] at g
    simpa using g
  · intro al
    have go : ∀ k, k < a.length → b.contains (a.getD k 0) = true := by
      intro k hk
      simpa using al _ (mem k hk)
    have : lo = a.length := by
      rcases l3 with z | z
      · exact z
      · by_cases hl : lo < a.length
        · rw [go lo hl] at z; cases z
        · omega
    have z0 : hi - lo = 0 := by omega
    rw [z0] at *
    simp
end Od
namespace Od
open PySem PySem.Spec L2 PySem.W PySem
open PyProof.Rows hiding St cutD
/-! ### text.upper() -/
/-! ### {k: e, ..}, the keys written -/
def tDsp (ks : List DK) (Fs : List EM) : OM := fun ρ => vL Fs ρ >>= fun r => if ks.Nodup ∧ ks.length = r.1.length ∧ ks.length ≤ 15 then .ok (.dct ks r.1, r.2) else .fail
def EKV (X : Cx) (E : WX) (pos : Pos) (keys : List (Option Expr)) (vals : List Expr) (ks : List DK) (Fs : List EM) : Prop := ∃ trs, PPs X pos keys vals trs ∧ ∀ σ H (Q : List (V × V) → Hp → Prop),
  rX X.K X.mg E (VLRel X.K X.mg) (vL Fs) σ H (fun vs H' => Q ((ks.map fun k => kV (kK k)).zip vs) H') → tPairs trs σ H Q
section
variable {X : Cx} {E : WX} {e : Expr} {pos : Pos} {keys : List (Option Expr)} {vals : List Expr} {ks : List DK} {Fs : List EM} {F : EM}
theorem ekv_nil : EKV X E pos [] [] [] [] := ⟨[], pps_nil, fun σ H Q ⟨P, W, ρ, w, g⟩ => g [] P W H (Step.refl P W H) ⟨w, DenL.nil⟩⟩
theorem ekv_go {ke : Expr} {k : DK} (hk : PE X ke (tC (kV (kK k)))) (he : EV X E e F) (hr : EKV X E pos keys vals ks Fs) : EKV X E pos (some ke :: keys) (e :: vals) (k :: ks) (F :: Fs) := by
  obtain ⟨trs, h1, h2⟩ := hr
  refine ⟨_, pps_cons hk he h1, fun σ H Q ⟨P, W, ρ, w, g⟩ => ?_⟩
  show rX X.K X.mg E (VRel X.K X.mg) F σ H fun y H2 => tPairs trs σ H2 fun ps H3 => Q ((kV (kK k), y) :: ps) H3
  refine ⟨P, W, ρ, w, (Go.bind g).mono fun x H1 ⟨P1, W1, a, s1, ⟨w1, k1⟩, g1⟩ => h2 σ H1 _ ⟨P1, W1, a.2, w1, (Go.bind g1).mono fun vs H2 ⟨P2, W2, b, s2, ⟨w2, k2⟩, g2⟩ => ?_⟩⟩
  exact g2 (x :: vs) P2 W2 H2 (Step.refl P2 W2 H2) ⟨w2, DenL.cons (Den.mono s2.1 _ _ k1) k2⟩
theorem ekv_s {s : Str} {k : Tx} {n : Nat} {p : Pos} (hs : s = sT k) (he : EV X E e F) (hr : EKV X E pos keys vals ks Fs) : EKV X E pos (some (.Constant (.str s) n p) :: keys) (e :: vals) (.inr k :: ks) (F :: Fs) := by
  subst hs
  exact ekv_go pe_str he hr
theorem zip_kv : ∀ {ks : List DK} {vs : List V}, ks.length = vs.length → (ks.map fun k => kV (kK k)).zip vs = ((ks.map kK).zip vs).map fun kv => (kV kv.1, kv.2)
  | [], [], _ => rfl
  | k :: ks, v :: vs, h => by
    simp only [List.map_cons, List.zip_cons_cons, List.cons.injEq, true_and]
    exact zip_kv (by simpa using h)
  | [], _ :: _, h => by simp at h
  | _ :: _, [], h => by simp at h
theorem et_dsp (h : EKV X E pos keys vals ks Fs) (hall : keys.all (·.isSome) = true) (hl : keys.length = vals.length) (h0 : keys ≠ []) (h15 : keys.length ≤ 15) : ET X E (.Dict keys vals pos) (tDsp ks Fs) := by
  obtain ⟨trs, h1, h2⟩ := h
  refine PE.imp (pe_disp h1 hall hl h0 h15) fun σ H Q ⟨P, W, ρ, w, g⟩ p hp => ?_
  have al := Al.newH (P := P) (o := .dK []) w.same hp
  have wp : W p = none := by
    cases e : W p with
    | none => rfl
    | some r => obtain ⟨_, u, h⟩ := w.own p r e; rw [hp] at h; cases h
  refine h2 σ _ _ ⟨P, W, ρ, w.al al, ?_⟩
  unfold tDsp at g
  cases hv : vL Fs ρ with
  | fail => rw [hv] at g; exact g.elim
  | exc x ρ' => rw [hv] at g; exact fun c od P' W' H' s => g c od P' W' H' ((al.step W).trans s)
  | ok a =>
  rw [hv, ok_bind] at g
  intro vs P1 W1 H1 s1 ⟨w1, k1⟩
  split at g
  · rename_i hc
    obtain ⟨nd, hlen, hn⟩ := hc
    obtain ⟨e1, e2, e3⟩ := s1.2 p _ upd_same wp
    have hvl : ks.length = vs.length := by rw [hlen, k1.len]
    refine ⟨e1, (ks.map kK).zip vs, zip_kv hvl, by rw [List.length_zip, List.length_map]; omega, ?_⟩
    have hf : ((ks.map kK).zip vs).map Prod.fst = ks.map kK := List.map_fst_zip (by rw [List.length_map]; omega)
    have hs : ((ks.map kK).zip vs).map Prod.snd = vs := List.map_snd_zip (by rw [List.length_map]; omega)
    have hm : mergeK [] ((ks.map kK).zip vs) = (ks.map kK).zip vs := mergeK_new _ [] (by
      rw [List.nil_append, hf, List.nodup_iff_pairwise_ne, List.pairwise_map]
      exact (List.nodup_iff_pairwise_ne.mp nd).imp fun h z => h (kK_inj z))
    rw [hm]
    have pp1 : P1 p = none := by rw [e3]; exact same_none w.same hp
    have w2 : Wd X.K X.mg P1 (ownNew W1 p none) (upd H1 p (.dK ((ks.map kK).zip vs))) σ a.2 := by
      refine ⟨fun x o hx => by rw [upd_ne (ne_of_none hx pp1)]; exact w1.same x o hx, fun x r hx => ?_, fun i t hi => ?_, w1.len⟩
      · unfold ownNew at hx
        by_cases hxp : x = p
        · subst hxp; exact ⟨pp1, _, upd_same⟩
        · rw [if_neg hxp] at hx
          rw [upd_ne hxp]
          exact w1.own x r hx
      · obtain ⟨v', hs', hr⟩ := w1.env i t hi
        refine ⟨v', hs', RT.mono (same_refl P1) (fun f x ex => ?_) t v' hr⟩
        have hxp : x ≠ p := fun z => by subst z; rw [e2] at ex; cases ex
        exact ⟨by unfold ownNew; rw [if_neg hxp]; exact ex, fun o ho => by rw [upd_ne hxp]; exact ho⟩
    refine g (.ref p) P1 (ownNew W1 p none) _ ⟨((al.step W).trans s1).1, fun x o hx wx => ?_⟩ ⟨w2, p, _, rfl, by simp [ownNew], upd_same, hf, by rw [hs]; exact k1⟩
    have hxp : x ≠ p := ne_of_none hx hp
    obtain ⟨z1, z2, z3⟩ := ((al.step W).trans s1).2 x o hx wx
    exact ⟨by rw [upd_ne hxp]; exact z1, by unfold ownNew; rw [if_neg hxp]; exact z2, z3⟩
  · exact g.elim
end
section
variable {ΦT : T × Env → Prop} {Ψ : Exn → Env → Prop} {ρ : Env}
theorem s_tDsp (ks : List DK) (Fs : List EM) : sat (tDsp ks Fs ρ) ΦT Ψ = sat (vL Fs ρ) (fun a => (ks.Nodup ∧ ks.length = a.1.length ∧ ks.length ≤ 15) ∧ ΦT (.dct ks a.1, a.2)) Ψ := by
  unfold tDsp; rw [sat_bind]; congr 1; funext a; rw [sat_iteF]; rfl
end
theorem atI_k {α : Type} {xs : List α} {x : α} {i : Int} (k : Nat) (hi : i = (k : Int)) (h : xs[k]? = some x) : atI xs i = some x := by
  subst hi
  rw [atI_nat' (List.getElem?_eq_some_iff.mp h).1, h]
section
variable {α : Type} {x y z w : α} {r : List α} {Φ : α → Prop}
theorem k_at0 : ex (atI (x :: r) 0) Φ = Φ x := by rw [atI_k (i := 0) 0 rfl rfl]; rfl
theorem k_at1 : ex (atI (x :: y :: r) 1) Φ = Φ y := by rw [atI_k (i := 1) 1 rfl rfl]; rfl
theorem k_at2 : ex (atI (x :: y :: z :: r) 2) Φ = Φ z := by rw [atI_k (i := 2) 2 rfl rfl]; rfl
theorem k_at3 : ex (atI (x :: y :: z :: w :: r) 3) Φ = Φ w := by rw [atI_k (i := 3) 3 rfl rfl]; rfl
end
theorem in_tups (s : Tx) (ss : List Tx) {ΦB : Bool → Prop} : ex (cIn (.str s) (.tup (ss.map .str))) ΦB = ΦB (ss.contains s) := by
  have := inL_strs s ss
  have h : ((D.str s).flat && (ss.map D.str).all D.flat) = true := by simp [D.flat]
  unfold inL at this
  rw [if_pos h] at this
  have e : cIn (.str s) (.tup (ss.map .str)) = some (ss.contains s) := by
    show (if _ then _ else _) = _
    rw [if_pos h]; exact this
  rw [e]; rfl
theorem x_in2 (s a b : Tx) {ΦB : Bool → Prop} : ex (cIn (.str s) (.tup [.str a, .str b])) ΦB = ΦB (decide (s = a ∨ s = b)) := by
  rw [show [D.str a, .str b] = [a, b].map .str from rfl, in_tups]
  congr 1
  rw [Bool.eq_iff_iff]; simp
end Od
namespace Od
open PySem PySem.Spec L2
open PyProof.Rows hiding St cutD
/-! ### instances of own classes: their fields, made by C(e, ..) -/
structure ClsI (K : PySem.W.Frag) (mg : Str → Option Value) (C : Tx) (fl : List Tx) : Prop where
  ex : ∃ c, Top K C c ∧ mg (sT C) = some (.ref c) ∧ Cls K c ∧ ∀ f ∈ fl, NoAttr K c (sT f)
/-- a field of a shared one -/
def fFldO (C f : Tx) : D → Option D
  | .obj c ks vs => if c = C then lkX ks vs f else none
  | _ => none
def insOf (ρ : Env) (i : Nat) (C : Tx) : Option (List (Tx × T1)) := match ρ[i]? with
  | some (some (.ins c fs)) => if c = C then some fs else none
  | _ => none
theorem insOf_some {ρ : Env} {i : Nat} {C : Tx} {fs : List (Tx × T1)} (h : insOf ρ i C = some fs) : ρ[i]? = some (some (.ins C fs)) := by
  unfold insOf at h
  split at h
  · rename_i c fs' e
    split at h
    · rename_i hc; subst hc; cases h; exact e
    · cases h
  · cases h
def putT : List (Tx × T1) → Tx → T1 → List (Tx × T1)
  | [], k, t => [(k, t)]
  | (j, u) :: fs, k, t => if j = k then (j, t) :: fs else (j, u) :: putT fs k t
theorem putT_mem : ∀ {fs : List (Tx × T1)} {k x : Tx} {t : T1}, x ∈ (putT fs k t).map Prod.fst → x = k ∨ x ∈ fs.map Prod.fst
  | [], k, x, t, h => by simp [putT] at h; exact .inl h
  | (j, u) :: fs, k, x, t, h => by
    unfold putT at h
    split at h
    · exact .inr h
    · simp only [List.map_cons, List.mem_cons] at h ⊢
      rcases h with rfl | h
      · exact .inr (.inl rfl)
      · rcases putT_mem h with e | e
        · exact .inl e
        · exact .inr (.inr e)
theorem putT_nd : ∀ {fs : List (Tx × T1)} {k : Tx} {t : T1}, (fs.map Prod.fst).Nodup → ((putT fs k t).map Prod.fst).Nodup
  | [], k, t, _ => by simp [putT]
  | (j, u) :: fs, k, t, h => by
    unfold putT
    split
    · exact h
    · rename_i hj
      simp only [List.map_cons, List.nodup_cons] at h ⊢
      refine ⟨fun z => ?_, putT_nd h.2⟩
      rcases putT_mem z with e | e
      · exact hj e
      · exact h.1 e
section
variable {K : PySem.W.Frag} {mg : Str → Option Value} {P P' : Hp} {W W' : Own} {H H' : Hp} {r : Option Nat} {σ : St} {ρ : Env}
theorem beq_sT {a b : Tx} (h : ¬ a = b) : (sT a == sT b) = false := by
  rw [beq_eq_false_iff_ne]
  exact fun z => h (sT_inj z)
theorem RF.getL : ∀ {fs : List (Tx × T1)} {ws : List (Str × V)} {k : Tx} {t : T1}, RF K P W H r fs ws → getF fs k = some t → ∃ v, ws.lookup (sT k) = some v ∧ R1 K P W H r (some k) t v
  | [], ws, k, t, h, e => by cases e
  | (j, u) :: fs, ws, k, t, h, e => by
    obtain ⟨v, w, rfl, h1, h2⟩ := h
    unfold getF at e
    by_cases hj : j = k
    · rw [if_pos hj] at e
      cases e
      subst hj
      exact ⟨v, by simp [List.lookup], h1⟩
    · rw [if_neg hj] at e
      obtain ⟨v', h3, h4⟩ := RF.getL h2 e
      refine ⟨v', ?_, h4⟩
      simp [List.lookup, beq_sT (fun z => hj z.symm), h3]
theorem RF.putT {k : Tx} {t : T1} {v : V} (hv : R1 K P W H r (some k) t v) : ∀ {fs : List (Tx × T1)} {ws : List (Str × V)}, RF K P W H r fs ws → RF K P W H r (Od.putT fs k t) (putF (sT k) v ws)
  | [], ws, h => by
    cases h
    exact ⟨v, [], rfl, hv, rfl⟩
  | (j, u) :: fs, ws, h => by
    obtain ⟨v', w, rfl, h1, h2⟩ := h
    unfold Od.putT putF
    by_cases hj : j = k
    · subst hj
      rw [if_pos rfl, if_pos rfl]
      exact ⟨v, w, rfl, hv, h2⟩
    · rw [if_neg hj, if_neg (fun z => hj (sT_inj z))]
      exact ⟨v', _, rfl, h1, RF.putT hv h2⟩
theorem RF.len : ∀ {fs : List (Tx × T1)} {ws : List (Str × V)}, RF K P W H r fs ws → ws.length = fs.length
  | [], ws, h => by cases h; rfl
  | (j, u) :: fs, ws, h => by
    obtain ⟨v', w, rfl, h1, h2⟩ := h
    simp [RF.len h2]
theorem Wd.insAt {i : Nat} {C : Tx} {fs : List (Tx × T1)} (w : Wd K mg P W H σ ρ) (e : insOf ρ i C = some fs) : ∃ (a c dx : Addr) (ws : List (Str × V)), σ[i]? = some (some (.ref a)) ∧ W a = some (some i, Option.none) ∧ (mg (sT C) = some (.ref c) ∧ Top K C c) ∧ H a = some (.ins c dx ws) ∧ (fs.map Prod.fst).Nodup ∧ RF K P W H (some i) fs ws ∧ i < ρ.length := by
  have e := insOf_some e
  obtain ⟨v, hs, hr⟩ := w.env i _ e
  obtain ⟨a, c, dx, ws, rfl, hw, hc, hh, nd, l⟩ := hr
  exact ⟨a, c, dx, ws, hs, hw, hc, hh, nd, l, (List.getElem?_eq_some_iff.mp e).1⟩
end
/-- x.f, x an instance of the variable's own -/
def eFldI (C : Tx) (i : Nat) (f : Tx) : EM := fun ρ => match (insOf ρ i C).bind fun fs => getF fs f with
  | some (.sh d) => .ok (d, ρ)
  | _ => .fail
/-- x.f = e -/
def sFldI (C : Tx) (i : Nat) (f : Tx) (F : EM) : SM := fun ρ => F ρ >>= fun a => Res.of ((insOf a.2 i C).bind fun fs => if fs.length < 900 then some (a.2.set i (some (.ins C (putT fs f (.sh a.1))))) else none) >>= fun ρ1 => .ok (.nx ρ1)
section
variable {X : Cx} {E : WX} {C f : Tx} {fl : List Tx} {i : Nat} {x n : Str} {pos pos' p1 : Pos} {e : Expr} {A : HM} {F : EM} {md : List Bool}
theorem ev_fldO (R : ClsI X.K X.mg C fl) (hf : f ∈ fl) (hn : n = sT f) (ha : EH X E e A) (hb : attributeBase e n X.env (eval e X.env) = eval e X.env := by rfl) : EV X E (.Attribute e n pos) (e1 (fFldO C f) A) := by
  subst hn
  exact PE.imp (pe_fld ha hb) fun σ H Q ⟨P, W, ρ, w, g⟩ => ⟨P, W, ρ, w, (Go.bind g).mono fun v H1 ⟨P1, W1, a, s1, ⟨w1, k1⟩, g1⟩ => by
    obtain ⟨res, e', g2⟩ := Go.of g1
    obtain ⟨d, hd, hf'⟩ := Option.bind_eq_some_iff.mp e'
    cases d <;> simp only [fFldO, reduceCtorEq] at hf'
    rename_i c ks ds
    split at hf'
    · rename_i hcr
      subst hcr
      have vw : Den X.K P1 (.obj c ks ds) v := Hok.view w1 k1 hd
      unfold Den at vw
      obtain ⟨b, C, dx, ws, rfl, t, xa, k, l⟩ := vw
      obtain ⟨C', t', _, ec, hna⟩ := R.ex
      obtain rfl := top_inj t t'
      obtain ⟨v, hv, dv⟩ := lkX_get hf' k l
      exact ⟨b, C, dx, ws, v, rfl, w1.same b _ xa, ec, hna f hf, hv, g2 v P1 W1 H1 (Step.refl P1 W1 H1) ⟨w1, dv⟩⟩
    · cases hf'⟩
theorem ev_fldI (R : ClsI X.K X.mg C fl) (hf : f ∈ fl) (hn : n = sT f) (hN : X.N[i]? = some x) (hv : Vis X.env.scope x) (hd : (x == ("__debug__" : Str)) = false := by decide) (hcd : (x == ("__classdict__" : Str)) = false := by decide)
    (hb : attributeBase (.Name x p1) n X.env (eval (.Name x p1) X.env) = eval (.Name x p1) X.env := by rfl) : EV X E (.Attribute (.Name x p1) n pos) (eFldI C i f) := by
  subst hn
  refine PE.imp (pe_fld (pe_var hN hv hd hcd) hb) fun σ H Q ⟨P, W, ρ, w, g⟩ => ?_
  unfold eFldI at g
  split at g
  · rename_i d e
    obtain ⟨fs, e1, e2⟩ := Option.bind_eq_some_iff.mp e
    obtain ⟨a, c, dx, ws, h1, h2, h3, h4, nd, l, hi⟩ := w.insAt e1
    obtain ⟨c', t', _, ec, hna⟩ := R.ex
    obtain rfl := top_inj h3.2 t'
    obtain ⟨v, hv, dv⟩ := RF.getL l e2
    exact ⟨_, h1, a, c, dx, ws, v, rfl, h4, ec, hna f hf, hv, g v P W H (Step.refl P W H) ⟨w, dv⟩⟩
  · exact g.elim
theorem sd_fldI (R : ClsI X.K X.mg C fl) (hf : f ∈ fl) (hn : n = sT f) (hN : X.N[i]? = some x) (hv : Vis X.env.scope x) (he : EV X E e F) (hd : (x == ("__debug__" : Str)) = false := by decide) (hcd : (x == ("__classdict__" : Str)) = false := by decide)
    (hs : swapsWith e (some (.Attribute (.Name x p1) n pos')) pos.line X.env = pure false := by rfl) : SD X E md (.Assign [.Attribute (.Name x p1) n pos'] e pos) (sFldI C i f F) := by
  subst hn
  refine PS.imp (ps_fld (pe_var hN hv hd hcd) he hs) fun D σ H ⟨P, W, ρ, w, g⟩ => ?_
  unfold sFldI at g
  refine ⟨P, W, ρ, w, (GoS.val (Rel := VRel X.K X.mg) g).mono fun u H1 ⟨P1, W1, b, s1, ⟨w1, db⟩, g1⟩ => ?_⟩
  obtain ⟨ρ2, e2, g2⟩ := GoS.of g1
  obtain ⟨fs, e3, e4⟩ := Option.bind_eq_some_iff.mp e2
  split at e4
  · rename_i hlen
    cases e4
    obtain ⟨a, c, dx, ws, h1, h2, h3, h4, nd, l, hi⟩ := w1.insAt e3
    obtain ⟨c', t', _, ec, hna⟩ := R.ex
    obtain rfl := top_inj h3.2 t'
    refine ⟨_, h1, a, c, dx, ws, rfl, h4, ec, hna f hf, by rw [RF.len l]; omega, ?_⟩
    have l2 := RF.putT (k := f) (t := .sh b.1) (v := u) db l
    have l3 : RF X.K P1 W1 (upd H1 a (.ins c dx (putF (sT f) u ws))) (some i) (putT fs f (.sh b.1)) (putF (sT f) u ws) := RF.mono (same_refl P1) (fun g y hy => ⟨hy, fun o ho => by
      have : y ≠ a := fun z => by subst z; rw [h2] at hy; cases hy
      rw [upd_ne this]; exact ho⟩) _ _ l2
    obtain ⟨w2, s2⟩ := w1.mutF (mg := X.mg) (o := .ins c dx (putF (sT f) u ws)) (t := .ins C (putT fs f (.sh b.1))) hi h1 h2 ⟨a, c, dx, _, rfl, h2, h3, upd_same, putT_nd nd, l3⟩
    exact g2 σ P1 W1 _ s2 w2 (Kp.refl md σ)
  · cases e4
end
end Od
namespace Od
open PySem PySem.Spec L2
open PyProof.Rows hiding St cutD
/-! ### C(e, ..): a new instance, then __init__ -/
section
variable {X : Cx} {CX : CXT} {k : Nat} {f C : Addr} {fd : FuncData} {ps : List Str} {sp : Sp} {E : St → XK} {x : Str} {p pos : Pos} {e : Expr} {es : List Expr} {t : TA}
theorem RoomG.make' {A : Around} (hr : RoomG (k + 1) A) (C : Addr) (us : List Value) (kw : List (Str × Value)) : RoomG k (A.under (.builtin "type.__call__" ⟨.ref C :: us, kw⟩)) := ⟨hr.toRoom.make C us kw, hr.gd⟩
theorem runMakeG {pins : List (Addr × Obj)} {σ : St} {H : Hp} {s : Shared} {Q : VK} {us : List Value} {vs : List V} (M : Mk X.K C f) (F : FnG X.prog X.w X.K X.mg X.base CX k f fd ps sp) (hr : RoomG (k + 1) X.A) (hb : Binds X.K fd ps [])
    (hx : PassesAt CX X σ (E σ)) (I : Inv X pins σ H s) (r : Vals vs us)
    (h : ∀ x dx, H x = none → H dx = none → dx ≠ x → sp (.ref x :: vs) (upd (upd H dx (.own x)) x (.ins C dx [])) (fun v H2 => v = .non ∧ Q (.ref x) H2) (E σ)) :
    wpAny (model X.prog X.w) X.A (call (.ref C) us) (EP X pins σ Q) X.xe s := by
  have hq := h (s.heap.objs.size + 1) s.heap.objs.size (I.hok.fresh (Nat.le_succ _)) (I.hok.fresh (Nat.le_refl _)) (Nat.ne_of_lt (Nat.lt_succ_self _))
  have I2 := Inv.made (C := C) I
  have r2 : Vals (V.ref (s.heap.objs.size + 1) :: vs) (Value.ref (s.heap.objs.size + 1) :: us) := .cons rfl r
  have hl : (Value.ref (s.heap.objs.size + 1) :: us).length = ps.length := by
    have e := r2.length
    rw [F.ln _ _ _ _ hq] at e
    exact e.symm
  refine wpAny_call (make_map (f := f) I.kIn M.makes M.init (beq_iff_eq.mp M.fn) (codeAny_mono (F.go (RoomG.make' hr C us []) (I2.env0.make C us []) (ar := ⟨Value.ref (s.heap.objs.size + 1) :: us, []⟩) (us := Value.ref (s.heap.objs.size + 1) :: us) ?_ r2 hq) fun r s' hq' => ?_))
  · have := hb _ (Value.ref (s.heap.objs.size + 1) :: us) I2.kIn (by rw [List.append_nil]; exact hl)
    rwa [List.append_nil] at this
  cases r with
  | error e => exact hx pins _ _ e s' I2 hq'
  | ok fl =>
    cases fl with
    | ret u =>
      obtain ⟨v, H', I3, rv, ev, q3⟩ := I2.after hq'
      subst ev
      exact ⟨rv, ⟨V.ref (s.heap.objs.size + 1), H', I3, rfl, q3⟩⟩
    | next => exact False.elim hq'
    | brk => exact False.elim hq'
    | cont => exact False.elim hq'
def tMakeG (C : Addr) (sp : Sp) (E : St → XK) (t : TA) : TE := fun σ H Q => t σ H fun vs H1 => ∀ x dx, H1 x = none → H1 dx = none → dx ≠ x → sp (.ref x :: vs) (upd (upd H1 dx (.own x)) x (.ins C dx [])) (fun v H2 => v = .non ∧ Q (.ref x) H2) (E σ)
theorem pe_makeG (M : Mk X.K C f) (F : FnG X.prog X.w X.K X.mg X.base CX k f fd ps sp) (hr : RoomG (k + 1) X.A) (hg : Gl X x) (hm : X.mg x = some (.ref C)) (hb : Binds X.K fd ps []) (hx : ∀ σ, PassesAt CX X σ (E σ))
    (ha : PA X (e :: es) t) (hdb : (x == ("__debug__" : Str)) = false) (he : starEach (e :: es) X.env = (false, eval e X.env) :: starEach es X.env) (hpl : (backTo pos (starEach es X.env)).any (·.1) = false) :
    PE X (.Call (.Name x p) (e :: es) [] pos) (tMakeG C sp E t) := by
  refine ⟨fun pins s σ H Q I h => ?_⟩
  refine wpAny_Call_Name_kw (ld_glob I hg hm ?_ hdb)
  refine PySem.W.callWith_K (h₀ := X.base) I.ok.mod.kin M.kp (thn (ha.run pos pins s σ H _ I h) fun us s1 ⟨vs, H1, I1, r, q⟩ => ⟨I1.kIn, ?_⟩) he hpl
  exact runMakeG M F hr hb (hx σ) I1 r q
end
/-- a class with its own __init__ -/
structure Ini (P : Program) (w : World) (K : PySem.W.Frag) (mg : Str → Option Value) (base : Heap) (k : Nat) (C : Tx) (fn : Fn) : Prop where
  ex : ∃ (c f : Addr) (fd : FuncData) (ps : List Str), Top K C c ∧ mg (sT C) = some (.ref c) ∧ Mk K c f ∧ FnG P w K mg base (L2.CX P w) k f fd ps (spF K mg fn) ∧ Binds K fd ps []
theorem Ini.mono {P : Program} {w : World} {K : PySem.W.Frag} {mg : Str → Option Value} {base : Heap} {k j : Nat} {C : Tx} {fn : Fn} (h : Ini P w K mg base k C fn) (hk : k ≤ j) : Ini P w K mg base j C fn := by
  obtain ⟨c, f, fd, ps, h1, h2, h3, h4, h5⟩ := h.ex
  exact ⟨c, f, fd, ps, h1, h2, h3, h4.mono hk, h5⟩
def newR (C : Tx) (ρ : Env) : Out → Res (T × Env)
  | .ok (.sh .non) (some (.ins c fs) :: _) => if c = C then .ok (.ins C fs, ρ) else .fail
  | .exc x _ => .exc x ρ
  | _ => .fail
def eNew (C : Tx) (fn : Fn) (Fs : List EM) : OM := fun ρ => vL Fs ρ >>= fun a => newR C a.2 (fn (.ins C [] :: a.1.map .sh))
section
variable {K : PySem.W.Frag} {mg : Str → Option Value} {P P' H H' : Hp} {W W' : Own} {σ : St} {ρ os : Env}
theorem wd_init {C : Tx} {c x dx : Addr} {ds : List D} {vs : List V} (w : Wd K mg P W H σ ρ) (hc : mg (sT C) = some (.ref c) ∧ Top K C c) (nx : H x = none) (ndx : H dx = none) (ne : dx ≠ x) (l : DenL K P ds vs) :
    Wd K mg P (fun a => if a = x then some (some 0, none) else none) (upd (upd H dx (.own x)) x (.ins c dx [])) ((V.ref x :: vs).map some) ((T.ins C [] :: ds.map .sh).map some) := by
  refine ⟨fun a o e => ?_, fun a r e => ?_, fun i t e => ?_, by simp [l.len]⟩
  · have h1 : a ≠ x := ne_of_none e (same_none w.same nx)
    have h2 : a ≠ dx := ne_of_none e (same_none w.same ndx)
    rw [upd_ne h1, upd_ne h2]
    exact w.same a o e
  · by_cases h : a = x
    · subst h
      exact ⟨same_none w.same nx, _, upd_same⟩
    · simp [h] at e
  · cases i with
    | zero =>
      simp only [List.map_cons, List.getElem?_cons_zero, Option.some.injEq] at e
      subst e
      exact ⟨.ref x, rfl, x, c, dx, [], rfl, by simp, hc, upd_same, by simp, rfl⟩
    | succ i =>
      simp only [List.map_cons, List.getElem?_cons_succ, List.getElem?_map] at e ⊢
      cases q : ds[i]? with
      | none => rw [q] at e; cases e
      | some d =>
        rw [q] at e
        cases e
        obtain ⟨v, hv, dv⟩ := DenL.get l q
        exact ⟨v, by rw [hv]; rfl, dv⟩
theorem wd_made {x dx : Addr} {o1 o2 : HO} {vs : List (Option V)} (w : Wd K mg P W H σ ρ) (nx : H x = none) (ndx : H dx = none) (st : Step P (fun a => if a = x then some (some 0, none) else none) (upd (upd H dx o1) x o2) P' W' H') (w' : Wd K mg P' W' H' vs os) :
    ∃ W2, Wd K mg P' W2 H' σ ρ ∧ Step P W H P' W2 H' ∧ ∀ t v, RT K mg P' W' H' (some 0) t v → RT K mg P' W2 H' none t v := by
  have old : ∀ a o, H a = some o → H' a = some o ∧ W' a = none ∧ P' a = P a := fun a o e => by
    have h1 : a ≠ x := ne_of_none e nx
    have h2 : a ≠ dx := ne_of_none e ndx
    exact st.2 a o (by rw [upd_ne h1, upd_ne h2]; exact e) (by simp [h1])
  refine ⟨fun a => match W a with
    | some r => some r
    | none => (match W' a with | some (some 0, f) => some (none, f) | _ => none), ⟨w'.same, fun a r e => ?_, fun i t e => ?_, w.len⟩, ⟨st.1, fun a o ho wa => ?_⟩, fun t v hr => ?_⟩
  · cases q : W a with
    | some r' =>
      obtain ⟨h1, o, h2⟩ := w.own a r' q
      obtain ⟨k1, k2, k3⟩ := old a o h2
      exact ⟨k3.trans h1, o, k1⟩
    | none =>
      simp only [q] at e
      split at e
      · rename_i f q2
        exact w'.own a _ q2
      · cases e
  · obtain ⟨v, hs, hr⟩ := w.env i t e
    refine ⟨v, hs, RT.mono st.1 (fun f a ea => ?_) t v hr⟩
    obtain ⟨h1, o, h2⟩ := w.own a _ ea
    obtain ⟨k1, k2, k3⟩ := old a o h2
    exact ⟨by simp only [ea], fun u hu => by rw [h2] at hu; cases hu; exact k1⟩
  · obtain ⟨k1, k2, k3⟩ := old a o ho
    exact ⟨k1, by simp only [wa, k2], k3⟩
  · refine RT.mono (same_refl P') (fun f a ea => ⟨?_, fun _ h => h⟩) t v hr
    cases q : W a with
    | some r' =>
      obtain ⟨h1, o, h2⟩ := w.own a r' q
      obtain ⟨k1, k2, k3⟩ := old a o h2
      rw [k2] at ea
      cases ea
    | none => simp only [ea]
end
section
variable {X : Cx} {E : WX} {C : Tx} {k : Nat} {x : Str} {fn : Fn} {p pos : Pos} {e : Expr} {es : List Expr} {Fs : List EM}
theorem et_new (R : Ini X.prog X.w X.K X.mg X.base k C fn) (hx : x = sT C) (hr : RoomG (k + 1) X.A) (hg : Gl X x) (tk : Takes X E) (ha : EAV X E (e :: es) Fs)
    (hdb : (x == ("__debug__" : Str)) = false := by decide) (he : starEach (e :: es) X.env = (false, eval e X.env) :: starEach es X.env := by rfl) (hpl : (backTo pos (starEach es X.env)).any (·.1) = false := by rfl) : ET X E (.Call (.Name x p) (e :: es) [] pos) (eNew C fn Fs) := by
  subst hx
  obtain ⟨c, f, fd, ps, hT, hm, M, F, hb⟩ := R.ex
  refine PE.imp (pe_makeG (E := WE E) M F hr hg hm hb (fun σ => passAt tk σ) ha hdb he hpl) fun σ H Q ⟨P, W, ρ, w, g⟩ => ?_
  unfold eNew at g
  refine ⟨P, W, ρ, w, (Go.bind g).mono fun vs H1 ⟨P1, W1, a, s1, ⟨w1, k1⟩, g1⟩ => ?_⟩
  intro x dx nx ndx ne
  refine ⟨P1, _, T.ins C [] :: a.1.map .sh, wd_init w1 ⟨hm, hT⟩ nx ndx ne k1, by simp [k1.len], ?_⟩
  cases hf : fn (T.ins C [] :: a.1.map .sh) with
  | fail => rw [hf] at g1; exact g1.elim
  | exc y os =>
    rw [hf] at g1
    intro c' od P' W' H' st w' xr
    obtain ⟨W2, w2, s2, _⟩ := wd_made w1 nx ndx st w'
    exact g1 c' od P' W2 H' s2 w2 xr
  | ok t os =>
    rw [hf] at g1
    intro v P' W' H' st w' rt
    obtain ⟨W2, w2, s2, r2⟩ := wd_made w1 nx ndx st w'
    unfold newR at g1
    split at g1
    · rename_i c0 fs tl q
      cases q
      split at g1
      · rename_i hc
        subst hc
        obtain ⟨v0, hv0, hr0⟩ := w'.env 0 (.ins c0 fs) rfl
        simp only [List.map_cons, List.getElem?_cons_zero, Option.some.injEq] at hv0
        subst hv0
        refine ⟨rt, g1 (.ref x) P' W2 H' s2 ⟨w2, r2 _ _ hr0⟩⟩
      · exact g1.elim
    · rename_i q; cases q
    · exact g1.elim
end
section
variable {Φ : T × Env → Prop} {Ψ : Exn → Env → Prop} {ρ : Env} {ΦD : D × Env → Prop} {ΦS : Fl → Prop} {ΦO : D → Prop} {F : EM}
def newP (C : Tx) (Φ : T × Env → Prop) (ρ : Env) (t : T) (os : Env) : Prop := match t, os with
  | .sh .non, some (.ins c fs) :: _ => c = C ∧ Φ (.ins C fs, ρ)
  | _, _ => False
theorem s_eNew (C : Tx) (fn : Fn) (Fs : List EM) : sat (eNew C fn Fs ρ) Φ Ψ = sat (vL Fs ρ) (fun a => satO (fn (.ins C [] :: a.1.map .sh)) (newP C Φ a.2) (fun x _ => Ψ x a.2)) Ψ := by
  unfold eNew
  rw [sat_bind]
  congr 1; funext a
  rw [eqO]
  generalize fn (T.ins C [] :: a.1.map .sh) = o
  cases o with
  | fail => rfl
  | exc x os => rfl
  | ok t os =>
    show sat (newR C a.2 (.ok t os)) Φ Ψ = newP C Φ a.2 t os
    unfold newR newP
    split
    · rename_i c fs tl q
      cases q
      by_cases hc : c = C
      · rw [if_pos hc]; simp [hc]; rfl
      · rw [if_neg hc]; simp [hc, sat_fail]
    · rename_i q; cases q
    · rename_i h1 h2
      split
      · rename_i c fs tl
        exact absurd rfl (h1 c fs tl)
      · rfl
theorem x_newP (C : Tx) (fs : List (Tx × T1)) (r : Env) (ρ : Env) : newP C Φ ρ (.sh .non) (some (.ins C fs) :: r) = Φ (.ins C fs, ρ) := by simp [newP]
end
end Od
namespace Od
open PySem PySem.Spec L2
open PyProof.Rows hiding St cutD
/-! ### x.m(e, ..), x an instance of the variable's own -/
section
variable {X : Cx} {CX : CXT} {k : Nat} {f C : Addr} {fd : FuncData} {ps : List Str} {sp : Sp} {E : St → XK} {m : Str} {apos pos : Pos} {o e : Expr} {es : List Expr} {ta : TE} {t : TA}
def tMethG (C : Addr) (m : Str) (sp : Sp) (E : St → XK) (ta : TE) (t : TA) : TE := fun σ H Q => ta σ H fun x H1 => ∃ a dx fs, x = .ref a ∧ H1 a = some (.ins C dx fs) ∧ fs.lookup m = none ∧ t σ H1 fun vs H2 => sp (x :: vs) H2 Q (E σ)
theorem pe_methG {pl : Sem Bool} (he : PE X o ta) (c : Cls X.K C) (hm : Meth X.K C m f) (F : FnG X.prog X.w X.K X.mg X.base CX k f fd ps sp) (hr : RoomG k X.A) (hb : Binds X.K fd ps []) (hx : ∀ σ, PassesAt CX X σ (E σ)) (ha : PA X (e :: es) t)
    (hst : starEach (e :: es) X.env = (false, eval e X.env) :: starEach es X.env) (hpl : (backTo pos (starEach es X.env)).any (·.1) = false)
    (ht : eval (.Call (.Attribute o m apos) (e :: es) [] pos) X.env = (do
      let ov ← eval o X.env
      standAt apos.atName
      let (f, first) ← holding [ov] (getMethod ov m pl)
      callWith pos f first (backTo pos (starEach (e :: es) X.env)) (backToKw pos (keywordEach [] X.env)))) :
    PE X (.Call (.Attribute o m apos) (e :: es) [] pos) (tMethG C m sp E ta t) := by
  refine ⟨fun pins s σ H Q I h => ?_⟩
  refine PySem.W.methodCall_KW (pl := pl) (thn (he.run pins s σ H _ I h) fun u s1 ⟨x, H1, I1, rx, a, dx, fs, ex, ea, l, q⟩ => ?_) ht
  subst ex
  obtain rfl : u = Value.ref a := rx
  refine getmeth_ok I1 ea c hm l ?_
  refine PySem.W.callWith_K (first := [.ref a]) (h₀ := X.base) I.ok.mod.kin hm.kp (thn (ha.run pos pins s1 σ H1 _ I1 q) fun us s2 ⟨vs, H2, I2, r, q2⟩ => ⟨I2.kIn, ?_⟩) hst hpl
  exact runG (us := .ref a :: us) (vs := .ref a :: vs) F hr hb (hx σ) I2 (.cons rfl r) q2
theorem pe_methG0 {pl : Sem Bool} (he : PE X o ta) (c : Cls X.K C) (hm : Meth X.K C m f) (F : FnG X.prog X.w X.K X.mg X.base CX k f fd ps sp) (hr : RoomG k X.A) (hb : Binds X.K fd ps []) (hx : ∀ σ, PassesAt CX X σ (E σ))
    (ht : eval (.Call (.Attribute o m apos) [] [] pos) X.env = (do
      let ov ← eval o X.env
      standAt apos.atName
      let (f, first) ← holding [ov] (getMethod ov m pl)
      callWith pos f first (backTo pos (starEach [] X.env)) (backToKw pos (keywordEach [] X.env)))) :
    PE X (.Call (.Attribute o m apos) [] [] pos) (tMethG C m sp E ta tNil) := by
  refine ⟨fun pins s σ H Q I h => ?_⟩
  refine PySem.W.methodCall_KW (pl := pl) (thn (he.run pins s σ H _ I h) fun u s1 ⟨x, H1, I1, rx, a, dx, fs, ex, ea, l, q⟩ => ?_) ht
  subst ex
  obtain rfl : u = Value.ref a := rx
  refine getmeth_ok I1 ea c hm l ?_
  exact PySem.W.callWith_K0 (first := [.ref a]) I1.kIn hm.kp (runG (us := [.ref a]) (vs := [.ref a]) F hr hb (hx σ) I1 (.cons rfl .nil) q)
end
structure CalM (P : Program) (w : World) (K : PySem.W.Frag) (mg : Str → Option Value) (base : Heap) (k : Nat) (C m : Tx) (fn : Fn) : Prop where
  ex : ∃ (c f : Addr) (fd : FuncData) (ps : List Str), Top K C c ∧ Cls K c ∧ Meth K c (sT m) f ∧ FnG P w K mg base (L2.CX P w) k f fd ps (spF K mg fn) ∧ Binds K fd ps []
theorem CalM.mono {P : Program} {w : World} {K : PySem.W.Frag} {mg : Str → Option Value} {base : Heap} {k j : Nat} {C m : Tx} {fn : Fn} (h : CalM P w K mg base k C m fn) (hk : k ≤ j) : CalM P w K mg base j C m fn := by
  obtain ⟨c, f, fd, ps, h1, h2, h3, h4, h5⟩ := h.ex
  exact ⟨c, f, fd, ps, h1, h2, h3, h4.mono hk, h5⟩
def eCallM (C m : Tx) (fn : Fn) (i : Nat) (As : List Arg) : OM := fun ρ => match insOf ρ i C with
  | some fs => (match getF fs m with | none => eCall fn (.io i :: As) ρ | some _ => .fail)
  | none => .fail
section
variable {K : PySem.W.Frag} {mg : Str → Option Value} {P P' H H' : Hp} {W W' : Own} {r : Option Nat}
theorem RF.getN : ∀ {fs : List (Tx × T1)} {ws : List (Str × V)} {k : Tx}, RF K P W H r fs ws → getF fs k = Option.none → ws.lookup (sT k) = Option.none
  | [], ws, k, h, e => by cases h; rfl
  | (j, u) :: fs, ws, k, h, e => by
    obtain ⟨v, w, rfl, h1, h2⟩ := h
    unfold getF at e
    by_cases hj : j = k
    · rw [if_pos hj] at e; cases e
    · rw [if_neg hj] at e
      simp [List.lookup, beq_sT (fun z => hj z.symm), RF.getN h2 e]
end
section
variable {X : Cx} {E : WX} {C m f : Tx} {fl : List Tx} {i k : Nat} {x n : Str} {fn : Fn} {p1 apos pos pos' : Pos} {e : Expr} {es : List Expr} {As : List Arg} {F : EM} {md : List Bool}
theorem meth_red {σ : St} {H : Hp} {Q : VK} {c : Addr} (hT : Top X.K C c) (h : rX X.K X.mg E (TRel X.K X.mg) (eCallM C m fn i As) σ H Q) : tMethG c (sT m) (spF X.K X.mg fn) (WE E) (tVar i) (rX X.K X.mg E (ARel X.K X.mg As) (aL As)) σ H Q := by
  obtain ⟨P, W, ρ, w, g⟩ := h
  unfold eCallM at g
  split at g
  · rename_i fs e1
    split at g
    · rename_i e2
      obtain ⟨a, c', dx, ws, h1, h2, h3, h4, nd, l, hi⟩ := w.insAt e1
      obtain rfl := top_inj h3.2 hT
      refine ⟨_, h1, a, dx, ws, rfl, h4, RF.getN l e2, P, W, ρ, w, ?_⟩
      unfold eCall at g
      by_cases n : nodupB (iosOf (.io i :: As)) = true
      · rw [if_pos n] at g
        have ea : aL (.io i :: As) ρ = (aL As ρ >>= fun r => .ok (Option.none :: r.1, r.2)) := by
          show (match ρ[i]? with | some (some _) => _ | _ => _) = _
          rw [insOf_some e1]
        rw [ea] at g
        have g0 : Go X.K X.mg E (TRel X.K X.mg) (aL As ρ >>= fun r => Res.of (mkT (.io i :: As) (Option.none :: r.1) r.2) >>= fun ts => match fn ts with
          | .ok t os => Res.ok (t, putB (.io i :: As) os r.2)
          | .exc x os => .exc x (putB (.io i :: As) os r.2)
          | .fail => .fail) P W H σ Q := by
          cases q : aL As ρ with
          | ok r => rw [q] at g; exact g
          | exc x ρ' => rw [q] at g; exact g
          | fail => rw [q] at g; exact g
        refine (Go.bind g0).mono fun vs H1 ⟨P1, W1, b, s1, ⟨w1, k1⟩, g1⟩ => ?_
        obtain ⟨ts, mk, g2⟩ := Go.of g1
        have k2 : AOk X.K P1 σ (.io i :: As) (Option.none :: b.1) (.ref a :: vs) := ⟨b.1, .ref a, vs, rfl, rfl, h1, k1⟩
        refine ⟨P1, ownIn (.io i :: As) W1, ts, w1.callee n k2 mk, (args_env k2 mk).1, ?_⟩
        cases hf : fn ts with
        | ok t os =>
          rw [hf] at g2
          exact fun v P' W' H' st w' rt => by
            obtain ⟨wb, sb, rb⟩ := w1.back n k2 st w'
            exact g2 v P' _ H' sb ⟨wb, rb t v rt⟩
        | exc x os =>
          rw [hf] at g2
          exact fun c od P' W' H' st w' xr => by
            obtain ⟨wb, sb, rb⟩ := w1.back n k2 st w'
            exact g2 c od P' _ H' sb wb xr
        | fail => rw [hf] at g2; exact g2.elim
      · rw [if_neg n] at g; exact g.elim
    · exact g.elim
  · exact g.elim
theorem et_meth {pl : Sem Bool} (R : CalM X.prog X.w X.K X.mg X.base k C m fn) (hn : n = sT m) (hr : RoomG k X.A) (tk : Takes X E) (hN : X.N[i]? = some x) (hv : Vis X.env.scope x) (ha : EAA X E (e :: es) As) (hd : (x == ("__debug__" : Str)) = false := by decide) (hcd : (x == ("__classdict__" : Str)) = false := by decide)
    (hst : starEach (e :: es) X.env = (false, eval e X.env) :: starEach es X.env := by rfl) (hpl : (backTo pos (starEach es X.env)).any (·.1) = false := by rfl)
    (ht : eval (.Call (.Attribute (.Name x p1) n apos) (e :: es) [] pos) X.env = (do
      let ov ← eval (.Name x p1) X.env
      standAt apos.atName
      let (f, first) ← holding [ov] (getMethod ov n pl)
      callWith pos f first (backTo pos (starEach (e :: es) X.env)) (backToKw pos (keywordEach [] X.env))) := by rfl) :
    ET X E (.Call (.Attribute (.Name x p1) n apos) (e :: es) [] pos) (eCallM C m fn i As) := by
  subst hn
  obtain ⟨c, f, fd, ps, hT, hc, hm, F, hb⟩ := R.ex
  exact PE.imp (pe_methG (E := WE E) (pe_var hN hv hd hcd) hc hm F hr hb (fun σ => passAt tk σ) ha hst hpl ht) fun σ H Q h => meth_red hT h
theorem et_meth0 {pl : Sem Bool} (R : CalM X.prog X.w X.K X.mg X.base k C m fn) (hn : n = sT m) (hr : RoomG k X.A) (tk : Takes X E) (hN : X.N[i]? = some x) (hv : Vis X.env.scope x) (hd : (x == ("__debug__" : Str)) = false := by decide) (hcd : (x == ("__classdict__" : Str)) = false := by decide)
    (ht : eval (.Call (.Attribute (.Name x p1) n apos) [] [] pos) X.env = (do
      let ov ← eval (.Name x p1) X.env
      standAt apos.atName
      let (f, first) ← holding [ov] (getMethod ov n pl)
      callWith pos f first (backTo pos (starEach [] X.env)) (backToKw pos (keywordEach [] X.env))) := by rfl) :
    ET X E (.Call (.Attribute (.Name x p1) n apos) [] [] pos) (eCallM C m fn i []) := by
  subst hn
  obtain ⟨c, f, fd, ps, hT, hc, hm, F, hb⟩ := R.ex
  refine PE.imp (pe_methG0 (E := WE E) (pe_var hN hv hd hcd) hc hm F hr hb (fun σ => passAt tk σ) ht) fun σ H Q h => ?_
  obtain ⟨v, h1, a, dx, fs, e1, e2, e3, P, W, ρ, w, g⟩ := meth_red hT h
  have g1 := g [] P W H (Step.refl P W H) ⟨w, rfl, rfl⟩
  exact ⟨v, h1, a, dx, fs, e1, e2, e3, g1⟩
end
section
variable {Φ : T × Env → Prop} {ΦD : D × Env → Prop} {Ψ : Exn → Env → Prop} {ρ : Env} {ΦS : Fl → Prop} {F : EM} {x : Option T} {ΦF : List (Tx × T1) → Prop} {ΦT1 : T1 → Prop} {i : Nat} {C : Tx} {ΦO : D → Prop}
theorem k_ins0 (fs : List (Tx × T1)) : ex (insOf (some (.ins C fs) :: ρ) 0 C) ΦF = ΦF fs := by show ex (if C = C then some fs else none) ΦF = _; rw [if_pos rfl]; rfl
theorem k_inss : ex (insOf (x :: ρ) (i + 1) C) ΦF = ex (insOf ρ i C) ΦF := rfl
/-- a part, by its name -/
def getS (fs : List (Tx × T1)) (f : Tx) : Option D := match getF fs f with
  | some (.sh d) => some d
  | _ => none
theorem k_getS1 (f : Tx) (d : D) (fs : List (Tx × T1)) : ex (getS ((f, .sh d) :: fs) f) ΦO = ΦO d := by unfold getS getF; rw [if_pos rfl]; rfl
theorem k_getS2 (f g : Tx) (t : T1) (fs : List (Tx × T1)) (h : decide (g = f) = false) : ex (getS ((g, t) :: fs) f) ΦO = ex (getS fs f) ΦO := by unfold getS; rw [show getF ((g, t) :: fs) f = getF fs f from by rw [getF, if_neg (of_decide_eq_false h)]]
theorem s_eFldI (C : Tx) (i : Nat) (f : Tx) : sat (eFldI C i f ρ) ΦD Ψ = ex (insOf ρ i C) fun fs => ex (getS fs f) fun d => ΦD (d, ρ) := by
  unfold eFldI getS
  cases insOf ρ i C with
  | none => rfl
  | some fs =>
    show sat (match getF fs f with | some (.sh d) => .ok (d, ρ) | _ => .fail) ΦD Ψ = ex (match getF fs f with | some (.sh d) => some d | _ => none) _
    cases getF fs f with
    | none => rfl
    | some t => cases t <;> rfl
theorem s_sFldI (C : Tx) (i : Nat) (f : Tx) : sat (sFldI C i f F ρ) ΦS Ψ = sat (F ρ) (fun a => ex (insOf a.2 i C) fun fs => fs.length < 900 ∧ cps (List.set a.2 i (some (.ins C (putT fs f (.sh a.1))))) fun r => ΦS (.nx r)) Ψ := by
  unfold sFldI
  rw [sat_bind]; congr 1; funext a
  rw [sat_bind, sat_of, ex_bind]; congr 1; funext fs
  rw [ex_ite]; rfl
theorem s_eCallM (C m : Tx) (fn : Fn) (i : Nat) (As : List Arg) : sat (eCallM C m fn i As ρ) Φ Ψ = ex (insOf ρ i C) fun fs => getF fs m = none ∧ sat (eCall fn (.io i :: As) ρ) Φ Ψ := by
  unfold eCallM
  cases insOf ρ i C with
  | none => rfl
  | some fs =>
    show sat (match getF fs m with | none => _ | some _ => .fail) Φ Ψ = (getF fs m = none ∧ _)
    cases getF fs m with
    | none => simp
    | some t => simp [sat_fail]
theorem x_fldO (C f : Tx) (ks : List Tx) (vs : List D) : ex (fFldO C f (.obj C ks vs)) ΦO = ex (lkX ks vs f) ΦO := by show ex (if C = C then lkX ks vs f else none) ΦO = _; rw [if_pos rfl]
end
end Od
namespace Od
open PySem PySem.Spec L2
open PyProof.Rows hiding St cutD
/-! ### xs.remove(e), flat things -/
section
variable {X : Cx}
end
section
variable {K : PySem.W.Frag} {P : Hp}
end
/-! ### xs.index(e), flat things; t.index(e) of texts -/
/-! ### xs.count(e), flat things -/
section
variable {X : Cx}
end
/-! ### s.split(sep) -/
def splitL (a b : Tx) : List Tx := (Txt.split (sT a) (sT b)).map fun s => s.cps.toList
def mSplit : D → List D → Option (List D)
  | .str a, [.str b] => if b ≠ [] ∧ a.length ≤ 1000000 then some ((splitL a b).map .str) else none
  | _, _ => none
theorem f_split {K : PySem.W.Frag} : MtL K (fun x xs H Q => ∃ a b, x = .str a ∧ xs = [.str b] ∧ (b.length == 0) = false ∧ a.length + 2 ≤ sizeLine ∧ rNewStrs (Txt.split a b) H Q) mSplit := fun P H x vs d ds res Q s v1 v2 hf q => by
  unfold mSplit at hf
  split at hf
  · rename_i a b
    split at hf
    · rename_i hc
      cases hf
      obtain ⟨v, rfl, h⟩ := vl1 v2
      refine ⟨_, _, vstr v1, by rw [vstr h], ?_, ?_, fun p hp => ?_⟩
      · rw [sT_len]
        cases b with
        | nil => exact absurd rfl hc.1
        | cons c r => rfl
      · rw [sT_len, sizeS]; omega
      · refine q p _ hp ?_
        have : (splitL a b).map sT = Txt.split (sT a) (sT b) := by
          unfold splitL
          rw [List.map_map]
          conv => rhs; rw [← List.map_id (Txt.split (sT a) (sT b))]
          exact List.map_congr_left fun s _ => sT_of s
        rw [← this]
        exact DenL.of_strs _
    · cases hf
  · cases hf
section
variable {Φ : D → Prop} {ΦL : List D → Prop}
theorem x_split (a b : Tx) : ex (mSplit (.str a) [.str b]) ΦL = ((b ≠ [] ∧ a.length ≤ 1000000) ∧ ΦL ((splitL a b).map .str)) := by show ex (if _ then _ else _) _ = _; rw [ex_ite]; rfl
end
end Od
namespace Od
open PySem PySem.Spec L2
open PyProof.Rows hiding St cutD
/-! ### range(i, j, 2) -/
/-! ### the order of numbers -/
end Od
namespace Od
open PySem PySem.Spec L2
open PyProof.Rows hiding St cutD
/-! ### for a look all that is owned is lent: the value is a scalar, and all comes back -/
def scalD : D → Bool
  | .int _ => true
  | .bl _ => true
  | .non => true
  | .str _ => true
  | _ => false
def lendW : Own := fun _ => Option.none
section
variable {K : PySem.W.Frag} {mg : Str → Option Value} {P P' H H' : Hp} {W W' : Own} {σ : St} {ρ : Env}
theorem den_scal {d : D} {v : V} (h : scalD d = true) (g : Den K P d v) : Den K P' d v := by
  cases d <;> first | (unfold Den at g ⊢; exact g) | cases h
end
section
variable {X : Cx} {E : WX} {e : Expr}
end
section
variable {ρ : Env} {Φ : D × Env → Prop} {ΦB : Bool × Env → Prop} {Ψ : Exn → Env → Prop} {ΦE : Env → Prop} {ΦO : Option T → Prop}
theorem x_sci (i : Int) : (scalD (.int i) = true) = True := by simp [scalD]
theorem x_scb (i : Bool) : (scalD (.bl i) = true) = True := by simp [scalD]
theorem x_scs (s : Tx) : (scalD (.str s) = true) = True := by simp [scalD]
theorem x_scn : (scalD .non = true) = True := by simp [scalD]
end
end Od
namespace Od
open PySem PySem.Spec L2
open PyProof.Rows hiding St cutD
/-! ### xs[e] += e', xs a list of the variable's own, numbers -/
section
variable {X : Cx}
end
section
variable {X : Cx} {E : WX} {md : List Bool} {i : Nat} {x : Str} {e e2 : Expr} {B F : EM} {pos p1 p2 : Pos}
end
section
variable {ΦS : Fl → Prop} {Ψ : Exn → Env → Prop} {ρ : Env} {F B : EM}
end
end Od
/-! sorted(t) of a tuple -/
namespace PySem.W
open PySem PySem.Calls PyProof.Rows PyProof.V PySem.Spec
section
variable {prog : Program} {w : World} {A : Around} {E : Value → Shared → Prop} {s : Shared}
end
end PySem.W
namespace Od
open PySem PySem.Spec L2
open PyProof.Rows hiding St cutD
/-! ### x += y, numbers or texts -/
/-! ### s.index(y) -/
end Od
namespace Od
open PySem PySem.Spec L2
open PyProof.Rows hiding St cutD
/-! ### constants: tuples of tuples of texts -/
section
variable {K : PySem.W.Frag} {mg : Str → Option Value} {x : Str}
end
end Od
namespace Od
open PySem PySem.Spec L2
open PyProof.Rows hiding St cutD
/-! ### own lists and tuples with own parts -/
def upT : T1 → T
  | .sh d => .sh d
  | .lst ds => .lst ds
  | .dct ks ds => .dct ks ds
def toT1 : T → Option T1
  | .sh d => some (.sh d)
  | .lst ds => some (.lst ds)
  | .dct ks ds => some (.dct ks ds)
  | _ => Option.none
def seqM (b : Bool) : List OM → List T1 → OM
  | [], q, ρ => if q.length ≤ 1000000 then .ok (.seq b q, ρ) else .fail
  | A :: r, q, ρ => A ρ >>= fun a => Res.of (toT1 a.1) >>= fun t => seqM b r (q ++ [t]) a.2
def tSeq (b : Bool) (As : List OM) : OM := seqM b As []
section
variable {K : PySem.W.Frag} {mg : Str → Option Value} {E : WX} {P P' H H' : Hp} {W W' : Own} {σ : St} {ρ : Env} {t : T} {v : V} {r : Option Nat}
theorem Pend.r1 {u : T1} {f : Option Tx} (h : Pend K P W H (upT u) v) (k : ∀ x, RootAt (upT u) v x → W' x = some (r, f)) : R1 K P W' H r f u v := by
  cases u with
  | sh d => exact h
  | lst ds =>
    obtain ⟨c, vs, e, hw, hp, hh, l⟩ := h
    exact ⟨c, vs, e, k c e, hh, l⟩
  | dct ks ds =>
    obtain ⟨c, ws, e, hw, hp, hh, kk, l⟩ := h
    exact ⟨c, ws, e, k c e, hh, kk, l⟩
theorem R1.pend {u : T1} {f : Option Tx} (w : Wd K mg P W H σ ρ) (h : R1 K P W H r f u v) (k : ∀ x, W x = some (r, f) → W' x = none) : Pend K P W' H (upT u) v := by
  cases u with
  | sh d => exact h
  | lst ds =>
    obtain ⟨c, vs, e, hw, hh, l⟩ := h
    exact ⟨c, vs, e, k c hw, (w.own c _ hw).1, hh, l⟩
  | dct ks ds =>
    obtain ⟨c, ws, e, hw, hh, kk, l⟩ := h
    exact ⟨c, ws, e, k c hw, (w.own c _ hw).1, hh, kk, l⟩
theorem adoptI : ∀ (q : List (T1 × V)) (n : Nat) {W : Own}, Wd K mg P W H σ ρ → (∀ p ∈ q, Pend K P W H (upT p.1) p.2) → q.Pairwise (fun a b => ∀ x, RootAt (upT a.1) a.2 x → ¬ RootAt (upT b.1) b.2 x) →
    ∃ W', Wd K mg P W' H σ ρ ∧ RI K P W' H none n (q.map Prod.fst) (q.map Prod.snd) ∧ (∀ x, W x = none → (∀ p ∈ q, ¬ RootAt (upT p.1) p.2 x) → W' x = none) ∧ ∀ x r, W x = some r → W' x = some r
  | [], n, W, w, _, _ => ⟨W, w, rfl, fun x h _ => h, fun x r h => h⟩
  | p :: q, n, W, w, hp, hd => by
    rw [List.pairwise_cons] at hd
    have h1 := hp p List.mem_cons_self
    classical
    let W1 : Own := fun a => if RootAt (upT p.1) p.2 a then some (none, some [n]) else W a
    have w1 : Wd K mg P W1 H σ ρ := ⟨w.same, fun a r e => by
      by_cases hr : RootAt (upT p.1) p.2 a
      · exact (h1.root hr).2
      · simp only [W1, if_neg hr] at e
        exact w.own a r e, fun j t' ej => by
      obtain ⟨v', hs', hr'⟩ := w.env j t' ej
      refine ⟨v', hs', RT.mono (same_refl P) (fun f x ex => ⟨?_, fun _ h => h⟩) t' v' hr'⟩
      have nr : ¬ RootAt (upT p.1) p.2 x := fun z => by rw [(h1.root z).1] at ex; cases ex
      simp only [W1, if_neg nr, ex], w.len⟩
    obtain ⟨W2, w2, ri, n2, k2⟩ := adoptI q (n + 1) w1 (fun p' hp' => (hp p' (List.mem_cons_of_mem p hp')).own fun x hx => by
      have nr : ¬ RootAt (upT p.1) p.2 x := fun z => hd.1 p' hp' x z hx
      simp only [W1, if_neg nr]
      exact ((hp p' (List.mem_cons_of_mem p hp')).root hx).1) hd.2
    refine ⟨W2, w2, ⟨p.2, q.map Prod.snd, rfl, h1.r1 fun x hx => k2 x _ (by simp only [W1, if_pos hx]), ri⟩, fun x hx hn => n2 x (by
      have nr := hn p List.mem_cons_self
      simp only [W1, if_neg nr]
      exact hx) fun p' hp' => hn p' (List.mem_cons_of_mem p hp'), fun x r hx => k2 x r ?_⟩
    have nr : ¬ RootAt (upT p.1) p.2 x := fun z => by rw [(h1.root z).1] at hx; cases hx
    simp only [W1, if_neg nr, hx]
/-- the parts one by one -/
def rOM (K : PySem.W.Frag) (mg : Str → Option Value) (E : WX) : List OM → St → Hp → (List V → Hp → Prop) → Prop
  | [], σ, H, Q => Q [] H
  | A :: r, σ, H, Q => rX K mg E (TRel K mg) A σ H fun v H1 => rOM K mg E r σ H1 fun vs H2 => Q (v :: vs) H2
theorem rOM.mono : ∀ (Bs : List OM) {H : Hp} {Q Q' : List V → Hp → Prop}, rOM K mg E Bs σ H Q → (∀ vs H2, Q vs H2 → Q' vs H2) → rOM K mg E Bs σ H Q'
  | [], H, Q, Q', h, q => q _ _ h
  | b :: Bs, H, Q, Q', ⟨P1, W1, ρ1, w1, go⟩, q => ⟨P1, W1, ρ1, w1, go.mono fun v H1 h => rOM.mono Bs h fun vs H2 => q (v :: vs) H2⟩
theorem RI.len : ∀ {n : Nat} {ts : List T1} {vs : List V}, RI K P W H r n ts vs → vs.length = ts.length
  | n, [], vs, h => by cases h; rfl
  | n, t :: ts, vs, h => by
    obtain ⟨v, q, rfl, h1, h2⟩ := h
    simp [RI.len h2]
theorem RI.pend (w : Wd K mg P W H σ ρ) (k : ∀ f x, W x = some (r, f) → W' x = none) : ∀ {n : Nat} {ts : List T1} {vs : List V}, RI K P W H r n ts vs → ∀ p ∈ (ts.map upT).zip vs, Pend K P W' H p.1 p.2
  | n, [], vs, h => fun p hp => by cases hp
  | n, t :: ts, vs, h => by
    obtain ⟨v, q, rfl, h1, h2⟩ := h
    intro p hp
    simp only [List.map_cons, List.zip_cons_cons, List.mem_cons] at hp
    rcases hp with rfl | hp
    · exact R1.pend w h1 (k _)
    · exact RI.pend w k h2 p hp
end
section
variable {X : Cx} {E : WX} {md : List Bool} {e : Expr} {es : List Expr} {A F : OM} {As : List OM} {pos : Pos}
end
/-! ### x, y, .. = e: the parts go to the names -/
section
variable {X : Cx} {E : WX} {md : List Bool} {e : Expr} {ts : List Expr} {F : OM} {is : List Nat} {pos pt : Pos}
end
section
variable {ΦT : T × Env → Prop} {ΦS : Fl → Prop} {Ψ : Exn → Env → Prop} {ρ : Env} {A F : OM} {b : Bool}
theorem s_tseq (As : List OM) : sat (tSeq b As ρ) ΦT Ψ = sat (seqM b As [] ρ) ΦT Ψ := rfl
theorem s_seqMc (r : List OM) (q : List T1) : sat (seqM b (A :: r) q ρ) ΦT Ψ = sat (A ρ) (fun a => ex (toT1 a.1) fun t => cps (q ++ [t]) fun q' => sat (seqM b r q' a.2) ΦT Ψ) Ψ := by
  show sat (A ρ >>= fun a => Res.of (toT1 a.1) >>= fun t => seqM b r (q ++ [t]) a.2) _ _ = _
  rw [sat_bind]; congr 1; funext a; rw [sat_bind, sat_of]; rfl
theorem s_seqMn (q : List T1) : sat (seqM b [] q ρ) ΦT Ψ = (q.length ≤ 1000000 ∧ ΦT (.seq b q, ρ)) := by
  show sat (if _ then _ else _) _ _ = _
  rw [sat_iteF]; rfl
theorem x_t1s {d : D} {Φ : T1 → Prop} : ex (toT1 (.sh d)) Φ = Φ (.sh d) := rfl
theorem x_t1l {d : List D} {Φ : T1 → Prop} : ex (toT1 (.lst d)) Φ = Φ (.lst d) := rfl
theorem x_t1d {ks : List DK} {d : List D} {Φ : T1 → Prop} : ex (toT1 (.dct ks d)) Φ = Φ (.dct ks d) := rfl
theorem x_upss {i : Nat} {d : D} {q : List (Nat × T)} {Φ : Env → Prop} : exSets ((i, upT (.sh d)) :: q) ρ Φ = exSets ((i, .sh d) :: q) ρ Φ := rfl
theorem x_upsl {i : Nat} {d : List D} {q : List (Nat × T)} {Φ : Env → Prop} : exSets ((i, upT (.lst d)) :: q) ρ Φ = exSets ((i, .lst d) :: q) ρ Φ := rfl
theorem x_upsd {i : Nat} {ks : List DK} {d : List D} {q : List (Nat × T)} {Φ : Env → Prop} : exSets ((i, upT (.dct ks d)) :: q) ρ Φ = exSets ((i, .dct ks d) :: q) ρ Φ := rfl
end
end Od
namespace Od
open PySem PySem.Spec L2
open PyProof.Rows hiding St cutD
/-! ### for x in s: the parts of an own list one by one, changed on the way -/
theorem set_same {α : Type} {xs : List α} {i : Nat} {v : α} (h : xs[i]? = some v) : xs.set i v = xs := by
  apply List.ext_getElem?
  intro j
  by_cases hj : j = i
  · subst hj; rw [List.getElem?_set_self (List.getElem?_eq_some_iff.mp h).1, h]
  · rw [List.getElem?_set_ne (Ne.symm hj)]
structure QSt (K : PySem.W.Frag) (mg : Str → Option Value) (P : Hp) (W : Own) (H : Hp) (σ : St) (ρ : Env) (i : Nat) (a : Addr) (q : List (T1 × V)) : Prop where
  w : Wd K mg P W H σ ρ
  s : σ[i]? = some (some (.ref a))
  wa : W a = Option.none
  pa : P a = Option.none
  ha : H a = some (.lst (q.map Prod.snd))
  pd : ∀ p ∈ q, Pend K P W H (upT p.1) p.2 ∧ ¬ RootAt (upT p.1) p.2 a
  ap : q.Pairwise fun a b => ∀ x, RootAt (upT a.1) a.2 x → ¬ RootAt (upT b.1) b.2 x
section
variable {K : PySem.W.Frag} {mg : Str → Option Value} {P P' H H' : Hp} {W W' : Own} {σ σ' : St} {ρ ρ' : Env} {i x : Nat} {a : Addr} {q : List (T1 × V)}
/-- and comes back -/
theorem QSt.back (h : QSt K mg P W H σ ρ i a q) (hi : i < ρ.length) : ∃ W', Wd K mg P W' H σ (ρ.set i (some (.seq false (q.map Prod.fst)))) ∧ ∀ x, W x = Option.none → x ≠ a → (∀ p ∈ q, ¬ RootAt (upT p.1) p.2 x) → W' x = Option.none := by
  let W1 : Own := fun x => if x = a then some (Option.none, Option.none) else W x
  have k1 : ∀ x, x ≠ a → W1 x = W x := fun x h => by simp only [W1, if_neg h]
  have ka : W1 a = some (Option.none, Option.none) := by simp only [W1, if_true]
  have w1 : Wd K mg P W1 H σ ρ := ⟨h.w.same, fun x r e => by
    by_cases hx : x = a
    · subst hx; exact ⟨h.pa, _, h.ha⟩
    · rw [k1 x hx] at e; exact h.w.own x r e, fun j t' ej => by
    obtain ⟨v', hs', hr'⟩ := h.w.env j t' ej
    refine ⟨v', hs', RT.mono (same_refl P) (fun f x ex => ⟨?_, fun _ h => h⟩) t' v' hr'⟩
    rw [k1 x (fun z => by subst z; rw [h.wa] at ex; cases ex)]; exact ex, h.w.len⟩
  obtain ⟨W2, w2, ri, n2, k2⟩ := adoptI q 0 w1 (fun p hp => (h.pd p hp).1.own fun x hx => by
    rw [k1 x (fun z => by subst z; exact (h.pd p hp).2 hx)]
    exact ((h.pd p hp).1.root hx).1) h.ap
  obtain ⟨W3, w3, s3⟩ := w2.put (i := i) (t := .seq false (q.map Prod.fst)) (v := .ref a) ⟨a, _, rfl, k2 a _ ka, h.ha, ri⟩ hi
  rw [set_same h.s] at w3
  refine ⟨W3, w3, fun x hx hxa hn => ?_⟩
  have h2 : W2 x = Option.none := n2 x (by rw [k1 x hxa]; exact hx) hn
  cases hH : H x with
  | some o => exact (s3.2 x o hH h2).2.1
  | none =>
    cases h3 : W3 x with
    | none => rfl
    | some r => obtain ⟨_, o, ho⟩ := w3.own x r h3; rw [hH] at ho; cases ho
end
section
variable {X : Cx} {E : WX} {md md' : List Bool} {i x : Nat} {s y : Str} {ps py pos : Pos} {body : List Stmt} {B : SM}
end
end Od
namespace Od
open PySem PySem.Spec L2
open PyProof.Rows hiding St cutD
/-! ### an own list with own parts: clear, append; a flat list made while all is lent -/
section
variable {K : PySem.W.Frag} {mg : Str → Option Value} {P P' H H' : Hp} {W W' : Own} {σ : St} {ρ : Env} {i : Nat} {u : T1} {v : V}
end
section
variable {X : Cx} {E : WX} {e : Expr} {F : OM} {i : Nat}
end
section
variable {Φ : D × Env → Prop} {ΦT : T × Env → Prop} {ΦS : Fl → Prop} {ΦQ : List T1 → Prop} {Ψ : Exn → Env → Prop} {ρ : Env} {A F : OM} {i x : Nat} {B : SM} {o : Option T}
end
end Od
namespace Od
open PySem PySem.Spec L2
open PyProof.Rows hiding St cutD
/-! ### all is lent for an expression whose object holds no list of another one -/
def isTupO : HO → Bool
  | .tup _ => true
  | .frz _ _ => true
  | _ => false
def lndA (H : Hp) (W : Own) (a : Addr) : Bool := (W a).isSome && !(match H a with | some o => isTupO o | Option.none => false)
def lend2P (P H : Hp) (W : Own) : Hp := fun a => if lndA H W a then H a else P a
mutual
def deepD : D → Bool
  | .int _ => true
  | .bl _ => true
  | .non => true
  | .str _ => true
  | .tup ds => deepL ds
  | _ => false
def deepL : List D → Bool
  | [] => true
  | d :: ds => deepD d && deepL ds
end
def deepU : T1 → Bool
  | .sh d => deepD d
  | .lst ds => deepL ds
  | .dct _ ds => deepL ds
def deepT : T → Bool
  | .sh d => deepD d
  | .lst ds => deepL ds
  | .dct _ ds => deepL ds
  | .seq _ ts => ts.all deepU
  | _ => false
section
variable {K : PySem.W.Frag} {mg : Str → Option Value} {P P' P2 H H' : Hp} {W W' W2 : Own} {σ : St} {ρ ρ1 : Env}
mutual
theorem den_deep (hp : ∀ a u, P' a = some u → isTupO u = true → P2 a = some u) : ∀ (d : D) (v : V), deepD d = true → Den K P' d v → Den K P2 d v
  | .int _, v, _, h => by unfold Den at h ⊢; exact h
  | .bl _, v, _, h => by unfold Den at h ⊢; exact h
  | .non, v, _, h => by unfold Den at h ⊢; exact h
  | .str _, v, _, h => by unfold Den at h ⊢; exact h
  | .tup ds, v, hd, h => by
    unfold Den at h ⊢
    obtain ⟨a, vs, e, q, l⟩ := h
    unfold deepD at hd
    refine ⟨a, vs, e, ?_, den_deepL hp ds vs hd l⟩
    rcases q with q | q
    · rcases q with q | ⟨o, q⟩
      · exact .inl (.inl (hp a _ q rfl))
      · exact .inl (.inr ⟨o, hp a _ q rfl⟩)
    · exact .inr q
  | .lst _, v, hd, h => by unfold deepD at hd; cases hd
  | .rol _, v, hd, h => by unfold deepD at hd; cases hd
  | .dct _ _, v, hd, h => by unfold deepD at hd; cases hd
  | .exn _ _ _, v, hd, h => by unfold deepD at hd; cases hd
  | .obj _ _ _, v, hd, h => by unfold deepD at hd; cases hd
  | .fn _, v, hd, h => by unfold deepD at hd; cases hd
theorem den_deepL (hp : ∀ a u, P' a = some u → isTupO u = true → P2 a = some u) : ∀ (ds : List D) (vs : List V), deepL ds = true → DenL K P' ds vs → DenL K P2 ds vs
  | [], vs, _, h => by unfold DenL at h ⊢; exact h
  | d :: ds, vs, hd, h => by
    unfold deepL at hd
    rw [Bool.and_eq_true] at hd
    unfold DenL at h ⊢
    obtain ⟨v, r, e, h1, h2⟩ := h
    exact ⟨v, r, e, den_deep hp d v hd.1 h1, den_deepL hp ds r hd.2 h2⟩
end
theorem R1.deep {f : Option Tx} {u : T1} {v : V} (hp : ∀ a u, P' a = some u → isTupO u = true → P2 a = some u) (hw : ∀ a f, W' a = some (Option.none, f) → W2 a = some (Option.none, f)) (hd : deepU u = true) (h : R1 K P' W' H' Option.none f u v) : R1 K P2 W2 H' Option.none f u v := by
  cases u with
  | sh d => exact den_deep hp d v hd h
  | lst ds =>
    obtain ⟨a, vs, e, h1, h2, l⟩ := h
    exact ⟨a, vs, e, hw a f h1, h2, den_deepL hp ds vs hd l⟩
  | dct ks ds =>
    obtain ⟨a, ws, e, h1, h2, k, l⟩ := h
    exact ⟨a, ws, e, hw a f h1, h2, k, den_deepL hp ds _ hd l⟩
theorem RI.deep (hp : ∀ a u, P' a = some u → isTupO u = true → P2 a = some u) (hw : ∀ a f, W' a = some (Option.none, f) → W2 a = some (Option.none, f)) : ∀ {n : Nat} {ts : List T1} {vs : List V}, ts.all deepU = true → RI K P' W' H' Option.none n ts vs → RI K P2 W2 H' Option.none n ts vs
  | n, [], vs, _, h => h
  | n, t :: ts, vs, hd, h => by
    rw [List.all_cons, Bool.and_eq_true] at hd
    obtain ⟨v, q, e, h1, h2⟩ := h
    exact ⟨v, q, e, R1.deep hp hw hd.1 h1, RI.deep hp hw hd.2 h2⟩
theorem RT.deep {t : T} {v : V} (hp : ∀ a u, P' a = some u → isTupO u = true → P2 a = some u) (hw : ∀ a f, W' a = some (Option.none, f) → W2 a = some (Option.none, f)) (hd : deepT t = true) (h : RT K mg P' W' H' Option.none t v) : RT K mg P2 W2 H' Option.none t v := by
  cases t with
  | sh d => exact den_deep hp d v hd h
  | lst ds => exact R1.deep (u := .lst ds) hp hw hd h
  | dct ks ds => exact R1.deep (u := .dct ks ds) hp hw hd h
  | rcd fs => cases hd
  | ins C fs => cases hd
  | seq b ts =>
    obtain ⟨a, vs, e, h1, h2, l⟩ := h
    exact ⟨a, vs, e, hw a _ h1, h2, RI.deep hp hw hd l⟩
theorem R1.den2 {r : Option Nat} {f : Option Tx} {t : T1} {v : V} (s : Same P P') (hp : ∀ a f o, W a = some (r, f) → H a = some o → isTupO o = false → P' a = H a) (h : R1 K P W H r f t v) : Den K P' (d1 t) v := by
  cases t with
  | sh d => exact Den.mono s d v h
  | lst ds =>
    obtain ⟨a, vs, e, hw, hh, l⟩ := h
    show Den K P' (.lst ds) v
    unfold Den
    exact ⟨a, vs, e, by rw [hp a f _ hw hh rfl]; exact hh, DenL.mono s ds vs l⟩
  | dct ks ds =>
    obtain ⟨a, ws, e, hw, hh, k, l⟩ := h
    show Den K P' (.dct ks ds) v
    unfold Den
    exact ⟨a, ws, e, by rw [hp a f _ hw hh rfl]; exact hh, k, DenL.mono s ds _ l⟩
theorem RI.den2 {r : Option Nat} (s : Same P P') (hp : ∀ a f o, W a = some (r, f) → H a = some o → isTupO o = false → P' a = H a) : ∀ {n : Nat} {ts : List T1} {vs : List V}, RI K P W H r n ts vs → DenL K P' (ts.map d1) vs
  | n, [], vs, h => by cases h; exact DenL.nil
  | n, t :: ts, vs, h => by
    obtain ⟨v, q, rfl, h1, h2⟩ := h
    exact DenL.cons (R1.den2 s hp h1) (RI.den2 s hp h2)
theorem lnd_at {a : Addr} {r : Option Nat × Option Tx} {o : HO} (e : W a = some r) (h : H a = some o) (n : isTupO o = false) : lend2P P H W a = H a := by
  unfold lend2P lndA
  rw [e, h]
  simp [n]
theorem Wd.lent2 (w : Wd K mg P W H σ ρ) (st : Step (lend2P P H W) lendW H P' W' H') (w' : Wd K mg P' W' H' σ ρ1) : ∃ P2 W2, Wd K mg P2 W2 H' σ ρ ∧ Step P W H P2 W2 H' ∧ (∀ a u, P' a = some u → isTupO u = true → P2 a = some u) ∧ ∀ a f, W' a = some (Option.none, f) → W2 a = some (Option.none, f) := by
  have keep : ∀ a u, H a = some u → H' a = some u ∧ W' a = Option.none ∧ P' a = lend2P P H W a := fun a u h => st.2 a u h rfl
  have smP : ∀ a, W a = Option.none → lend2P P H W a = P a := fun a h => by unfold lend2P lndA; rw [h]; simp
  let P2 : Hp := fun a => if (W a).isSome then Option.none else P' a
  let W2 : Own := fun y => match H y with | Option.none => W' y | some _ => W y
  have p1 : ∀ a, W a = Option.none → P2 a = P' a := fun a h => by simp only [P2, h]; rfl
  have p2 : ∀ a r, W a = some r → P2 a = Option.none := fun a r h => by simp only [P2, h]; rfl
  have q1 : ∀ a, H a = Option.none → W2 a = W' a := fun a h => by simp only [W2, h]
  have q2 : ∀ a o, H a = some o → W2 a = W a := fun a o h => by simp only [W2, h]
  have sm : Same P P2 := fun a u e => by
    cases h : W a with
    | none =>
      rw [p1 a h]
      exact st.1 a u (by rw [smP a h]; exact e)
    | some r => have := (w.own a r h).1; rw [e] at this; cases this
  have wn : ∀ a, H a = Option.none → W a = Option.none := fun a h => by
    cases hc : W a with
    | none => rfl
    | some r => obtain ⟨_, o, ho⟩ := w.own a r hc; rw [h] at ho; cases ho
  refine ⟨P2, W2, ⟨fun a u e => ?_, fun a r e => ?_, fun i t e => ?_, w.len⟩, ⟨sm, fun a u h wa => ?_⟩, fun a u e tu => ?_, fun a f e => ?_⟩
  · cases h : W a with
    | none => rw [p1 a h] at e; exact w'.same a u e
    | some r => rw [p2 a r h] at e; cases e
  · cases h : H a with
    | none =>
      rw [q1 a h] at e
      obtain ⟨h1, h2⟩ := w'.own a r e
      exact ⟨by rw [p1 a (wn a h)]; exact h1, h2⟩
    | some o =>
      rw [q2 a o h] at e
      exact ⟨p2 a r e, o, (keep a o h).1⟩
  · obtain ⟨v, hs, hr⟩ := w.env i t e
    refine ⟨v, hs, RT.mono sm (fun f a e => ⟨?_, fun o h => (keep a o h).1⟩) t v hr⟩
    obtain ⟨_, o, ho⟩ := w.own a _ e
    rw [q2 a o ho]; exact e
  · obtain ⟨k1, k2, k3⟩ := keep a u h
    exact ⟨k1, by rw [q2 a u h]; exact wa, by rw [p1 a wa, k3, smP a wa]⟩
  · cases h : W a with
    | none => rw [p1 a h]; exact e
    | some r =>
      obtain ⟨pn, o, ho⟩ := w.own a r h
      obtain ⟨k1, k2, k3⟩ := keep a o ho
      rw [k3] at e
      exfalso
      cases ht : isTupO o with
      | false =>
        rw [lnd_at h ho ht, ho] at e
        cases e
        rw [ht] at tu; cases tu
      | true =>
        unfold lend2P lndA at e
        rw [h, ho] at e
        simp [ht, pn] at e
  · cases h : H a with
    | none => rw [q1 a h]; exact e
    | some o => rw [(keep a o h).2.1] at e; cases e
end
section
variable {X : Cx} {E : WX} {e : Expr}
end
section
variable {ΦT : T × Env → Prop} {ΦO : Option T → Prop} {ΦE : Env → Prop} {Ψ : Exn → Env → Prop} {ρ : Env} {F : OM}
theorem k_frzQ (ts : List T1) {ΦD : D → Prop} : ex (frzT (.seq false ts)) ΦD = ΦD (.lst (ts.map d1)) := rfl
theorem k_frzQT (ts : List T1) {ΦD : D → Prop} : ex (frzT (.seq true ts)) ΦD = ΦD (.tup (ts.map d1)) := rfl
end
end Od
namespace Od
open PySem PySem.Spec L2
open PyProof.Rows hiding St cutD
/-! ### isinstance(x, C): x an exception or None -/
section
variable {X : Cx} {E : WX} {rs ts fl : List Tx} {y : Tx} {n : Str} {ys : List Tx} {es : List Expr} {p p2 p3 pos : Pos} {e : Expr} {A : HM}
end
section
variable {Φ : D → Prop}
end
end Od
namespace Od
open PySem PySem.Spec L2
open PyProof.Rows hiding St cutD
/-! ### tuple(xs) whose object is known; dict(xs) of one's own -/
section
variable {X : Cx} {E : WX} {e : Expr} {As : List HM} {r : List V → Hp → VK → Prop} {F : EM}
end
section
variable {Φ : D × Env → Prop} {ΦT : T × Env → Prop} {ΦO : D → Prop} {Ψ : Exn → Env → Prop} {ρ : Env} {F : EM} {As : List HM}
end
end Od
namespace L2
open PySem PySem.Spec PyProof.Rows
/-! any(xs) of a list of numbers -/
end L2
namespace Od
open PySem PySem.Spec L2
open PyProof.Rows hiding St cutD
section
variable {X : Cx} {E : WX} {e : Expr} {A : HM} {p p2 q pos : Pos}
end
end Od
namespace L2
open PySem PySem.Spec PyProof.Rows
end L2
namespace Od
open PySem PySem.Spec L2
open PyProof.Rows hiding St cutD
section
variable {ΦP : List DK × List D → Prop}
end
end Od
namespace Od
open PySem PySem.Spec L2
open PyProof.Rows hiding St cutD
/-! ### x[k].clear(), x[k].reverse(): a part of an own tuple or list is changed -/
section
variable {K : PySem.W.Frag} {mg : Str → Option Value} {P P' H H' : Hp} {W W' : Own} {σ : St} {ρ : Env} {i : Nat}
end
section
variable {X : Cx} {E : WX} {i k : Nat} {e : Expr}
end
section
variable {Φ : D × Env → Prop} {ΦP : Bool × List T1 × List D → Prop} {Ψ : Exn → Env → Prop} {ρ : Env} {i k : Nat} {o : Option T} {f : List D → List D}
end
end Od
namespace Od
open PySem PySem.Spec L2
open PyProof.Rows hiding St cutD
/-! ### the parts of an own tuple or list are read -/
section
variable {K : PySem.W.Frag} {mg : Str → Option Value} {P P' H H' : Hp} {W W' : Own} {σ : St} {ρ : Env} {i : Nat}
theorem RI.at {r : Option Nat} : ∀ {n : Nat} {ts : List T1} {vs : List V} {k : Nat} {u : T1}, RI K P W H r n ts vs → ts[k]? = some u → ∃ v, vs[k]? = some v ∧ R1 K P W H r (some [n + k]) u v
  | n, [], vs, k, u, h, e => by simp at e
  | n, t :: ts, vs, 0, u, h, e => by
    obtain ⟨v, q, rfl, h1, h2⟩ := h
    simp only [List.getElem?_cons_zero, Option.some.injEq] at e
    subst e
    exact ⟨v, rfl, h1⟩
  | n, t :: ts, vs, k + 1, u, h, e => by
    obtain ⟨v, q, rfl, h1, h2⟩ := h
    rw [List.getElem?_cons_succ] at e
    obtain ⟨v', e1, e2⟩ := RI.at h2 e
    rw [show n + 1 + k = n + (k + 1) by omega] at e2
    exact ⟨v', by rw [List.getElem?_cons_succ]; exact e1, e2⟩
end
section
variable {X : Cx} {E : WX} {i k : Nat} {e : Expr}
end
section
variable {Φ : D × Env → Prop} {ΦT : T × Env → Prop} {ΦU : T1 → Prop} {ΦD : D → Prop} {ΦL : List D → Prop} {Ψ : Exn → Env → Prop} {ρ : Env} {i k : Nat} {o : Option T}
theorem k_uat0 (u : T1) (ts : List T1) : ex ((u :: ts)[0]?) ΦU = ΦU u := rfl
theorem k_uats (u : T1) (ts : List T1) : ex ((u :: ts)[k + 1]?) ΦU = ex (ts[k]?) ΦU := rfl
end
end Od
/-! ### dict(zip(a, b)) of two lists, the keys numbers or texts -/
namespace LiZ
open PySem PySem.Spec PyProof.Rows L2
end LiZ
namespace Od
open PySem PySem.Spec L2
open PyProof.Rows hiding St cutD
section
variable {K : PySem.W.Frag} {P H : Hp}
end
section
variable {X : Cx} {E : WX} {e : Expr} {As : List HM}
end
section
variable {ΦP : List DK × List D → Prop}
end
end Od
namespace Od
open PySem PySem.Spec L2
open PyProof.Rows hiding St cutD
/-! ### for k, x in enumerate(s): the parts of an own list one by one, changed on the way -/
section
variable {K : PySem.W.Frag} {mg : Str → Option Value} {P P' H H' : Hp} {W W' : Own} {σ σ' : St} {ρ ρ' : Env} {i x : Nat} {a T : Addr} {o : HO} {q : List (T1 × V)}
theorem Wd.free (w : Wd K mg P W H σ ρ) (hT : H T = Option.none) : Wd K mg P W (upd H T o) σ ρ ∧ Step P W H P W (upd H T o) := by
  have ne : ∀ {b : Addr} {u : HO}, H b = some u → b ≠ T := fun h z => by subst z; rw [hT] at h; cases h
  refine ⟨⟨fun b u e => ?_, fun b r e => ?_, fun j t ej => ?_, w.len⟩, same_refl P, fun b u h wb => ⟨by rw [upd_ne (ne h)]; exact h, wb, rfl⟩⟩
  · have := w.same b u e
    rw [upd_ne (ne this)]; exact this
  · obtain ⟨h1, u, h2⟩ := w.own b r e
    exact ⟨h1, u, by rw [upd_ne (ne h2)]; exact h2⟩
  · obtain ⟨v, hs, hr⟩ := w.env j t ej
    exact ⟨v, hs, RT.mono (same_refl P) (fun f y ey => ⟨ey, fun u h => by rw [upd_ne (ne h)]; exact h⟩) t v hr⟩
theorem QSt.free (h : QSt K mg P W H σ ρ i a q) (hT : H T = Option.none) : QSt K mg P W (upd H T o) σ ρ i a q := by
  obtain ⟨w, st⟩ := h.w.free (o := o) hT
  exact ⟨w, h.s, h.wa, h.pa, by rw [upd_ne (fun z => by subst z; rw [h.ha] at hT; cases hT)]; exact h.ha, fun p hp => ⟨(h.pd p hp).1.step st, (h.pd p hp).2⟩, h.ap⟩
theorem QSt.forget (h : QSt K mg P W H σ ρ i a q) (j : Nat) : QSt K mg P W H σ (ρ.set j Option.none) i a q :=
  ⟨⟨h.w.same, h.w.own, fun j' t' ej => by
    by_cases hj : j' = j
    · subst hj
      by_cases hl : j' < ρ.length
      · rw [List.getElem?_set_self hl] at ej; cases ej
      · rw [List.getElem?_eq_none (by simpa using hl)] at ej; cases ej
    · rw [List.getElem?_set_ne (Ne.symm hj)] at ej
      exact h.w.env j' t' ej, by simpa using h.w.len⟩, h.s, h.wa, h.pa, h.ha, h.pd, h.ap⟩
end
section
variable {X : Cx} {E : WX} {md md' : List Bool} {i xk x : Nat} {s y yk : Str} {ps py pk pt pe pe2 pos : Pos} {k0 : Nat} {body : List Stmt} {B : SM}
end
end Od
namespace Od
open PySem PySem.Spec L2
open PyProof.Rows hiding St cutD
/-! ### x = s[-1] and two statements that read x: the last part of an own list goes to a name for a while -/
section
variable {K : PySem.W.Frag} {mg : Str → Option Value} {P P' H H' : Hp} {W W' : Own} {σ σ' : St} {ρ ρ' : Env} {i x : Nat} {a T : Addr} {o : HO} {q : List (T1 × V)}
end
section
variable {X : Cx} {E : WX} {md md' : List Bool} {i x : Nat} {st0 b1 b2 : Stmt} {rest : List Stmt} {F1 F2 G : SM} {tm : TE} {e : Expr}
end
/-! ### the rules of the mirror -/
section
variable {Φ : D × Env → Prop} {ΦT : T × Env → Prop} {ΦS : Fl → Prop} {Ψ : Exn → Env → Prop} {ρ : Env} {i x xk : Nat} {B : SM}
end
end Od
namespace Od
open PySem PySem.Spec L2
open PyProof.Rows hiding St cutD
/-! ### s[::-1] of an own list with own parts, told: the name is told nothing of behind -/
section
variable {X : Cx} {E : WX} {i k : Nat} {e : Expr} {p1 p2 p3 pos : Pos}
end
section
variable {ΦT : T × Env → Prop} {Ψ : Exn → Env → Prop} {ρ : Env} {i : Nat}
end
end Od
namespace Od
open PySem PySem.Spec L2
open PyProof.Rows hiding St cutD
/-! ### f(s[k], y): a part of an own list is handed in and comes back changed -/
section
variable {K : PySem.W.Frag} {mg : Str → Option Value} {P P' H H' : Hp} {W W' : Own} {σ : St} {ρ : Env} {i : Nat}
end
section
variable {X : Cx} {E : WX} {i j k n : Nat} {x : Str} {p pos : Pos} {e e2 : Expr} {fn : Fn}
end
/-! ### x, y = a, b where both are told as own lists or tuples with own parts -/
structure PendQ (K : PySem.W.Frag) (P : Hp) (W : Own) (H : Hp) (b : Bool) (q : List (T1 × V)) (c : Addr) : Prop where
  wa : W c = Option.none
  pa : P c = Option.none
  ha : H c = some (sqO b (q.map Prod.snd))
  pd : ∀ p ∈ q, Pend K P W H (upT p.1) p.2 ∧ ¬ RootAt (upT p.1) p.2 c
  ap : q.Pairwise fun a b => ∀ x, RootAt (upT a.1) a.2 x → ¬ RootAt (upT b.1) b.2 x
section
variable {K : PySem.W.Frag} {mg : Str → Option Value} {P P' H H' : Hp} {W W' : Own} {σ : St} {ρ : Env} {i : Nat} {b : Bool} {c : Addr} {v : V} {q : List (T1 × V)} {ts : List T1}
theorem PendQ.step (h : PendQ K P W H b q c) (s : Step P W H P' W' H') : PendQ K P' W' H' b q c := by
  obtain ⟨a1, a2, a3⟩ := s.2 c _ h.ha h.wa
  exact ⟨a2, a3.trans h.pa, a1, fun p hp => ⟨(h.pd p hp).1.step s, (h.pd p hp).2⟩, h.ap⟩
theorem PendQ.own (h : PendQ K P W H b q c) (k : W' c = Option.none) (k2 : ∀ p ∈ q, ∀ x, RootAt (upT p.1) p.2 x → W' x = Option.none) : PendQ K P W' H b q c :=
  ⟨k, h.pa, h.ha, fun p hp => ⟨(h.pd p hp).1.own (k2 p hp), (h.pd p hp).2⟩, h.ap⟩
theorem PendQ.put (h : PendQ K P W H b q c) (w : Wd K mg P W H σ ρ) (hi : i < ρ.length) : ∃ W', Wd K mg P W' H (σ.set i (some (.ref c))) (ρ.set i (some (.seq b (q.map Prod.fst)))) ∧ ∀ x, W x = Option.none → x ≠ c → (∀ p ∈ q, ¬ RootAt (upT p.1) p.2 x) → W' x = Option.none := by
  let W1 : Own := fun x => if x = c then some (Option.none, Option.none) else W x
  have k1 : ∀ x, x ≠ c → W1 x = W x := fun x h => by simp only [W1, if_neg h]
  have ka : W1 c = some (Option.none, Option.none) := by simp only [W1, if_true]
  have w1 : Wd K mg P W1 H σ ρ := ⟨w.same, fun x r e => by
    by_cases hx : x = c
    · subst hx; exact ⟨h.pa, _, h.ha⟩
    · rw [k1 x hx] at e; exact w.own x r e, fun j t' ej => by
    obtain ⟨v', hs', hr'⟩ := w.env j t' ej
    refine ⟨v', hs', RT.mono (same_refl P) (fun f x ex => ⟨?_, fun _ h => h⟩) t' v' hr'⟩
    rw [k1 x (fun z => by subst z; rw [h.wa] at ex; cases ex)]; exact ex, w.len⟩
  obtain ⟨W2, w2, ri, n2, k2⟩ := adoptI q 0 w1 (fun p hp => (h.pd p hp).1.own fun x hx => by
    rw [k1 x (fun z => by subst z; exact (h.pd p hp).2 hx)]
    exact ((h.pd p hp).1.root hx).1) h.ap
  obtain ⟨W3, w3, s3⟩ := w2.put (i := i) (t := .seq b (q.map Prod.fst)) (v := .ref c) ⟨c, _, rfl, k2 c _ ka, h.ha, ri⟩ hi
  refine ⟨W3, w3, fun x hx hxa hn => ?_⟩
  have h2 : W2 x = Option.none := n2 x (by rw [k1 x hxa]; exact hx) hn
  cases hH : H x with
  | some o => exact (s3.2 x o hH h2).2.1
  | none =>
    cases h3 : W3 x with
    | none => rfl
    | some r => obtain ⟨_, o, ho⟩ := w3.own x r h3; rw [hH] at ho; cases ho
end
section
variable {X : Cx} {E : WX} {md : List Bool} {i j : Nat} {x y : Str} {a b : Expr} {A B : OM} {px py pt pos : Pos} {kt k2 : Nat} {pt2 : Pos}
end
section
variable {Φ : D × Env → Prop} {ΦS : Fl → Prop} {ΦL : List D → Prop} {Ψ : Exn → Env → Prop} {ρ : Env} {i j k : Nat} {f : Fn} {A B : OM}
end
end Od
/-! ### list(zip(text, list)) -/
namespace PySem.W
open PySem PySem.Calls PyProof.Rows PyProof.V PySem.Spec
section
variable {prog : Program} {w : World} {A : Around} {E : Value → Shared → Prop} {s : Shared} {z TI TO T i1 i2 : Addr} {fp1 fp2 : List Addr} {n1 n2 i : Nat} {P1 P2 : Nat → Value → Prop} {St1 St2 : Nat → Heap → Prop}
end
/-- the zip object after i turns; S the list that is made -/
structure ZdSt (h : Heap) (z TI TO i1 i2 S : Addr) (St1 St2 : Nat → Heap → Prop) (i : Nat) : Prop where
  ti : IsPair h TI (.ref i1) (.ref i2)
  s1 : St1 i h
  s2 : St2 i h
  z : (i = 0 ∧ IsZip h z TI TO .none ∧ IsPair h TO .none .none) ∨ ∃ T f oT, IsZipHeld h z TI TO T f ∧ h.get? T = some oT ∧ S < T
structure ZdLow (z TI TO : Addr) (fp1 fp2 : List Addr) (S : Addr) : Prop where
  z : z < S
  TI : TI < S
  TO : TO < S
  f1 : ∀ b ∈ fp1, b < S
  f2 : ∀ b ∈ fp2, b < S
section
variable {prog : Program} {w : World} {A : Around} {E : Value → Shared → Prop} {s : Shared} {z TI TO i1 i2 S : Addr} {fp1 fp2 : List Addr} {n1 n2 i : Nat} {P1 P2 : Nat → Value → Prop} {St1 St2 : Nat → Heap → Prop} {h h' : Heap}
theorem ZdSt.keep (D1 : Draws prog w A i1 fp1 n1 P1 St1) (D2 : Draws prog w A i2 fp2 n2 P2 St2) (st : ZdSt h z TI TO i1 i2 S St1 St2 i) (L : ZdLow z TI TO fp1 fp2 S) (k : ∀ b o, b ≠ S → h.get? b = some o → h'.get? b = some o) : ZdSt h' z TI TO i1 i2 S St1 St2 i where
  ti := k _ _ (Nat.ne_of_lt L.TI) st.ti
  s1 := D1.frame _ _ _ st.s1 fun b hb o e => k _ o (Nat.ne_of_lt (L.f1 b hb)) e
  s2 := D2.frame _ _ _ st.s2 fun b hb o e => k _ o (Nat.ne_of_lt (L.f2 b hb)) e
  z := by
    rcases st.z with ⟨e, a, b⟩ | ⟨T, f, oT, a, b, c⟩
    · exact .inl ⟨e, k _ _ (Nat.ne_of_lt L.z) a, k _ _ (Nat.ne_of_lt L.TO) b⟩
    · exact .inr ⟨T, f, oT, k _ _ (Nat.ne_of_lt L.z) a, k _ _ (Nat.ne_of_gt c) b, c⟩
end
section
variable {prog : Program} {w : World} {A : Around} {s : Shared} {R : Result → Shared → Prop} {z TI TO i1 i2 S : Addr} {fp1 fp2 : List Addr} {n1 n2 : Nat} {P1 P2 : Nat → Value → Prop} {St1 St2 : Nat → Heap → Prop}
end
section
variable {prog : Program} {w : World} {A : Around} {E : Value → Shared → Prop} {s : Shared} {z TI TO i1 i2 : Addr} {fp1 fp2 : List Addr} {n1 n2 : Nat} {P1 P2 : Nat → Value → Prop} {St1 St2 : Nat → Heap → Prop}
end
end PySem.W
namespace LiZ
open PySem PySem.Spec PyProof.Rows L2
section
variable {X : Cx}
end
end LiZ
namespace Od
open PySem PySem.Spec L2
open PyProof.Rows hiding St cutD
section
variable {K : PySem.W.Frag} {P H : Hp}
end
section
variable {X : Cx} {E : WX} {e e2 : Expr} {As : List HM} {p p2 zpos pos : Pos}
end
end Od
/-! ### list(d.items()) -/
namespace Od
open PySem PySem.Spec L2
open PyProof.Rows hiding St cutD
def kyD : DK → D
  | .inl i => .int i
  | .inr s => .str s
section
variable {K : PySem.W.Frag} {P H : Hp}
theorem kyD_den : ∀ k : DK, Den K P (kyD k) (kV (kK k))
  | .inl i => by unfold Den kyD; rfl
  | .inr s => by unfold Den kyD; rfl
end
section
variable {X : Cx} {E : WX} {e : Expr} {A : HM} {p apos cpos pos : Pos}
end
section
variable {ρ : Env} {ΦT : T × Env → Prop} {Ψ : Exn → Env → Prop}
end
end Od
/-! ### a dict of the module, texts by texts: D[e] -/
namespace Od
open PySem PySem.Spec L2
open PyProof.Rows hiding St cutD
section
variable {X : Cx} {E : WX} {b : Expr} {B : HM} {x : Str} {p0 pos : Pos} {tab : List (Tx × Tx)}
end
end Od
namespace Od
open PySem PySem.Spec L2
open PyProof.Rows hiding St
/-! ### T.index(e), T a tuple of texts that the program has as a constant -/
section
variable {X : Cx} {E : WX} {e : Expr} {x : Str} {p1 apos cpos : Pos} {F : EM} {ss : List Tx}
end
/-! ### d.get(k), d.get(k, x) -/
def keyG : D → Option DK
  | .int i => some (.inl i)
  | .str s => some (.inr s)
  | _ => none
def noC : D → Bool
  | .lst _ => false
  | .dct _ _ => false
  | _ => true
def mGet : D → List D → Option D
  | .dct ks vs, [k] => (keyG k).map fun k => (kLook ks vs k).getD .non
  | .dct ks vs, [k, x] => if noC x = true then (keyG k).map fun k => (kLook ks vs k).getD x else none
  | _, _ => none
def rGet : V → List V → Hp → VK → Prop := fun x xs H Q => (∃ a y o, x = .ref a ∧ xs = [y] ∧ DGet H a y o ∧ Q (o.getD .non) H) ∨ (∃ a y z o, x = .ref a ∧ xs = [y, z] ∧ DGet H a y o ∧ Q (o.getD z) H)
theorem mt_dget {X : Cx} (hu : X.A.units + 1 < cLine) : MtR X "dict.get" rGet := by
  intro pins s σ H x xs v us Q I rx rs h
  rcases h with ⟨a, y, o, rfl, rfl, g, q⟩ | ⟨a, y, z, o, rfl, rfl, g, q⟩
  · cases rx
    obtain ⟨u, rfl, r1⟩ := vals1 rs
    exact d_get1 hu I g r1 fun w' s' I' rw' => ⟨_, H, I', rw', q⟩
  · cases rx
    obtain ⟨u, t, rfl, r1, r2⟩ := vals2 rs
    exact d_get2 hu I g r1 r2 fun w' s' I' rw' => ⟨_, H, I', rw', q⟩
theorem kLook_o {K : PySem.W.Frag} {P : Hp} : ∀ {ks : List DK} {ds : List D} {ws : List (Key × V)} {k : DK}, ws.map Prod.fst = ks.map kK → DenL K P ds (ws.map Prod.snd) → kLook ks ds k = none → valV ws (kK k) = none
  | [], ds, [], k, _, _, _ => rfl
  | [], ds, w :: ws, k, e, _, _ => by simp at e
  | k0 :: ks, ds, [], k, _, _, _ => rfl
  | k0 :: ks, [], w :: ws, k, e, l, _ => by
    unfold DenL at l
    simp at l
  | k0 :: ks, d0 :: ds, (j, v) :: ws, k, e, l, h => by
    simp only [List.map_cons, List.cons.injEq] at e
    simp only [List.map_cons] at l
    unfold DenL at l
    obtain ⟨v', r, e2, h1, h2⟩ := l
    simp only [List.cons.injEq] at e2
    obtain ⟨rfl, rfl⟩ := e2
    unfold kLook at h
    rw [List.zip_cons_cons, List.find?_cons] at h
    by_cases hk : k0 = k
    · subst hk
      rw [decide_eq_true rfl] at h
      cases h
    · rw [decide_eq_false hk] at h
      have hj : ¬ (j, v).1 = kK k := fun z => hk (kK_inj (e.1.symm.trans z))
      rw [valV_neg hj]
      exact kLook_o e.2 h2 h
theorem keyG_v {K : PySem.W.Frag} {P : Hp} {d : D} {k : DK} {v : V} (h : keyG d = some k) (dv : Den K P d v) : v = kV (kK k) := by
  unfold keyG at h
  split at h
  · cases h; unfold Den at dv; rw [dv]; rfl
  · cases h; unfold Den at dv; rw [dv]; rfl
  · cases h
theorem view_flat {K : PySem.W.Frag} {P H : Hp} {d : D} {k : DK} {v : V} (h : keyG d = some k) (dv : View K P H d v) : Den K P d v := by
  unfold keyG at h
  split at h
  · exact dv
  · exact dv
  · cases h
theorem f_get {K : PySem.W.Frag} : MtV K rGet mGet := fun P H x vs d ds res Q s v1 v2 hf q => by
  unfold mGet at hf
  split at hf
  · rename_i ks es k0
    obtain ⟨k, hk, rfl⟩ := Option.map_eq_some_iff.mp hf
    obtain ⟨v, rfl, h⟩ := vl1 v2
    obtain ⟨a, ws, rfl, hh, e, l⟩ := v1
    have dv := keyG_v hk (view_flat hk h)
    refine .inl ⟨a, v, valV ws (kK k), rfl, rfl, by rw [dv]; exact DGet.k hh, ?_⟩
    cases hl : kLook ks es k with
    | some r =>
      obtain ⟨u, hu, du⟩ := kLook_v e l hl
      rw [hl] at q
      rw [hu]
      exact q u P H (Al.refl s) du
    | none =>
      rw [hl] at q
      rw [kLook_o e l hl]
      exact q .non P H (Al.refl s) (by show Den K P .non .non; unfold Den; rfl)
  · rename_i ks es k0 x0
    split at hf
    · rename_i hn
      obtain ⟨k, hk, rfl⟩ := Option.map_eq_some_iff.mp hf
      obtain ⟨v, z, rfl, h, hz⟩ := vl2 v2
      obtain ⟨a, ws, rfl, hh, e, l⟩ := v1
      have dz : Den K P x0 z := by
        cases x0 <;> first | exact hz | cases hn
      have dv := keyG_v hk (view_flat hk h)
      refine .inr ⟨a, v, z, valV ws (kK k), rfl, rfl, by rw [dv]; exact DGet.k hh, ?_⟩
      cases hl : kLook ks es k with
      | some r =>
        obtain ⟨u, hu, du⟩ := kLook_v e l hl
        rw [hl] at q
        rw [hu]
        exact q u P H (Al.refl s) du
      | none =>
        rw [hl] at q
        rw [kLook_o e l hl]
        exact q z P H (Al.refl s) dz
    · cases hf
  · cases hf
section
variable {Φ : D → Prop}
theorem x_get1s (ks : List DK) (vs : List D) (s : Tx) : ex (mGet (.dct ks vs) [.str s]) Φ = Φ ((kLook ks vs (.inr s)).getD .non) := rfl
theorem x_get1i (ks : List DK) (vs : List D) (s : Int) : ex (mGet (.dct ks vs) [.int s]) Φ = Φ ((kLook ks vs (.inl s)).getD .non) := rfl
theorem x_get2s (ks : List DK) (vs : List D) (s : Tx) (x : D) : ex (mGet (.dct ks vs) [.str s, x]) Φ = (noC x = true ∧ Φ ((kLook ks vs (.inr s)).getD x)) := by show ex (if _ then _ else _) _ = _; rw [ex_ite]; rfl
theorem x_get2i (ks : List DK) (vs : List D) (s : Int) (x : D) : ex (mGet (.dct ks vs) [.int s, x]) Φ = (noC x = true ∧ Φ ((kLook ks vs (.inl s)).getD x)) := by show ex (if _ then _ else _) _ = _; rw [ex_ite]; rfl
end
end Od
namespace Od
open PySem PySem.Spec L2
open PyProof.Rows hiding St
end Od
namespace Od
open PySem PySem.Spec L2
open PyProof.Rows hiding St cutD
section
variable {K : PySem.W.Frag} {X : Cx} {E : WX} {tg e : Expr} {F : EM}
end
section
variable {Ψ : Exn → Env → Prop} {ρ : Env} {F : EM} {ΦL : List D → Prop}
end
end Od
namespace Od
open PySem PySem.Spec L2
open PyProof.Rows hiding St cutD
/-! ### sorted(set(xs)) of a list of numbers, of any length -/
section
variable {P : Program} {w : World} {A : Around} {E : Value → Shared → Prop} {s : Shared}
end
section
variable {X : Cx}
end
section
variable {X : Cx} {E : WX} {e : Expr} {As : List HM} {p p2 q pos : Pos}
end
end Od
namespace Od
open PySem PySem.Spec L2
open PyProof.Rows hiding St cutD
/-! ### xs.index(e), data of any kind -/
end Od
namespace Od
open PySem PySem.Spec L2
open PyProof.Rows hiding St cutD
/-! ### a comprehension over the keys of a dict of a variable's own: it is locked, and out of reach, meanwhile -/
section
variable {K : PySem.W.Frag} {mg : Str → Option Value} {P H : Hp} {W : Own} {σ : St} {ρ : Env} {i : Nat} {A : Addr}
end
section
variable {X : Cx} {E : WX}
end
section
variable {X : Cx} {E : WX} {md : List Bool} {elt tg : Expr} {ifs : List Expr} {scope : Scope} {own : List (Str × Nat)} {pos np : Pos} {g : GM} {C : BM} {F : EM} {sl : List Nat} {i : Nat} {x : Str}
end
section
variable {Ψ : Exn → Env → Prop} {ρ : Env} {ΦT : T × Env → Prop} {C : BM} {F : EM}
end
end Od
namespace Od
open PySem PySem.Spec L2 PySem.W PySem
open PyProof.Rows hiding St cutD
/-! ### {k: e}, the key any int or text -/
section
variable {X : Cx} {E : WX} {ke e : Expr} {pos : Pos} {G F : EM}
end
section
variable {ΦT : T × Env → Prop} {Ψ : Exn → Env → Prop} {ρ : Env}
end
end Od
namespace Od
open PySem PySem.Spec L2
open PyProof.Rows hiding St cutD
/-! ### instances whose fields are lists and dicts of their own -/
/-- what is lent: an instance too, its lists as shared ones -/
def frzO3 : Option T → Option T
  | some (.ins C fs) => some (.sh (.obj C (fs.map Prod.fst) (fs.map fun p => d1 p.2)))
  | some (.sh d) => some (.sh d)
  | some (.lst ds) => some (.sh (.lst ds))
  | some (.dct ks ds) => some (.sh (.dct ks ds))
  | some (.seq false ts) => some (.sh (.lst (ts.map d1)))
  | _ => Option.none
def frzE3 (ρ : Env) : Env := ρ.map frzO3
section
variable {K : PySem.W.Frag} {mg : Str → Option Value} {P P' P2 H H' : Hp} {W W' W2 : Own} {σ : St} {ρ ρ1 : Env} {r : Option Nat}
theorem RF.den3 (s : Same P P') (hp : ∀ a f o, W a = some (r, f) → H a = some o → isTupO o = false → P' a = H a) : ∀ {fs : List (Tx × T1)} {ws : List (Str × V)}, RF K P W H r fs ws → ws.map Prod.fst = (fs.map Prod.fst).map sT ∧ DenL K P' (fs.map fun p => d1 p.2) (ws.map Prod.snd)
  | [], ws, h => by cases h; exact ⟨rfl, DenL.nil⟩
  | (k, t) :: fs, ws, h => by
    obtain ⟨v, w, rfl, h1, h2⟩ := h
    obtain ⟨e1, e2⟩ := RF.den3 s hp h2
    exact ⟨by simp only [List.map_cons, e1], DenL.cons (R1.den2 s hp h1) e2⟩
theorem Wd.lend3 (w : Wd K mg P W H σ ρ) : Wd K mg (lend2P P H W) lendW H σ (frzE3 ρ) := by
  have sm : Same P (lend2P P H W) := fun a u e => by
    unfold lend2P lndA
    cases h : W a with
    | none => simpa using e
    | some r => have := (w.own a r h).1; rw [e] at this; cases this
  refine ⟨fun a u e => ?_, fun a r e => (by unfold lendW at e; exact absurd e (by simp)), fun i t e => ?_, by unfold frzE3; rw [List.length_map]; exact w.len⟩
  · unfold lend2P at e
    split at e
    · exact e
    · exact w.same a u e
  · unfold frzE3 at e
    rw [List.getElem?_map] at e
    obtain ⟨o, ho, e⟩ := Option.map_eq_some_iff.mp e
    cases o with
    | none => cases e
    | some t0 =>
      obtain ⟨v, hs, hr⟩ := w.env i t0 ho
      refine ⟨v, hs, ?_⟩
      cases t0 with
      | sh d' => cases e; exact Den.mono sm _ v hr
      | lst ds =>
        cases e
        obtain ⟨a, vs, e, hw, hh, l⟩ := hr
        show Den K _ (.lst ds) v
        unfold Den
        exact ⟨a, vs, e, by rw [lnd_at hw hh rfl]; exact hh, DenL.mono sm ds vs l⟩
      | dct ks ds =>
        cases e
        obtain ⟨a, ws, e, hw, hh, k, l⟩ := hr
        show Den K _ (.dct ks ds) v
        unfold Den
        exact ⟨a, ws, e, by rw [lnd_at hw hh rfl]; exact hh, k, DenL.mono sm ds _ l⟩
      | rcd fs => cases e
      | ins C fs =>
        cases e
        obtain ⟨a, c, dx, ws, e, hw, hc, hh, nd, l⟩ := hr
        obtain ⟨k1, k2⟩ := RF.den3 sm (fun x f o e h n => lnd_at e h n) l
        show Den K _ (.obj C _ _) v
        unfold Den
        exact ⟨a, c, dx, ws, e, hc.2, by rw [lnd_at hw hh rfl]; exact hh, k1, k2⟩
      | seq b ts =>
        cases b with
        | true => cases e
        | false =>
          cases e
          obtain ⟨a, vs, rfl, hw, hh, l⟩ := hr
          exact seq_den (b := false) (by rw [lnd_at hw hh rfl]; exact hh) (RI.den2 sm (fun x f o e h n => lnd_at e h n) l)
end
/-- a look with all lent; the value a scalar -/
def eLend3 (F : EM) : EM := fun ρ => match F (frzE3 ρ) with
  | .ok a => if scalD a.1 then .ok (a.1, ρ) else .fail
  | _ => .fail
def bLend3 (C : BM) : BM := fun ρ => match C (frzE3 ρ) with
  | .ok a => .ok (a.1, ρ)
  | _ => .fail
/-- a new object made while all is lent -/
def tLend3 (F : OM) : OM := fun ρ => match F (frzE3 ρ) with
  | .ok (t, _) => if deepT t = true then .ok (t, ρ) else .fail
  | _ => .fail
section
variable {X : Cx} {E : WX} {e : Expr}
theorem ev_lend3 {F : EM} (h : EV X E e F) : EV X E e (eLend3 F) := PE.imp h fun σ H Q ⟨P, W, ρ, w, g⟩ => by
  unfold eLend3 at g
  refine ⟨lend2P P H W, lendW, frzE3 ρ, w.lend3, ?_⟩
  cases hF : F (frzE3 ρ) with
  | fail => rw [hF] at g; exact g.elim
  | exc x r => rw [hF] at g; exact g.elim
  | ok a =>
    rw [hF] at g
    intro v P' W' H' st hv
    have wv := hv.1.env
    obtain ⟨P2, W2, w2, s2, _, _⟩ := w.lent2 st (ρ1 := a.2) hv.1
    by_cases hs : scalD a.1 = true
    · simp only [hs, if_true] at g
      exact g v P2 W2 H' s2 ⟨w2, den_scal hs hv.2⟩
    · simp only [hs] at g
      exact g.elim
theorem eb_lend3 {C : BM} (h : EB X E e C) : EB X E e (bLend3 C) := PT.imp h fun σ H Q ⟨P, W, ρ, w, g⟩ => by
  unfold bLend3 at g
  refine ⟨lend2P P H W, lendW, frzE3 ρ, w.lend3, ?_⟩
  cases hF : C (frzE3 ρ) with
  | fail => rw [hF] at g; exact g.elim
  | exc x r => rw [hF] at g; exact g.elim
  | ok a =>
    rw [hF] at g
    intro P' W' H' st hv
    obtain ⟨P2, W2, w2, s2, _, _⟩ := w.lent2 st (ρ1 := a.2) hv
    exact g P2 W2 H' s2 w2
theorem et_lend3 {F : OM} (h : ET X E e F) : ET X E e (tLend3 F) := PE.imp h fun σ H Q ⟨P, W, ρ, w, g⟩ => by
  unfold tLend3 at g
  refine ⟨lend2P P H W, lendW, frzE3 ρ, w.lend3, ?_⟩
  cases hF : F (frzE3 ρ) with
  | fail => rw [hF] at g; exact g.elim
  | exc x r => rw [hF] at g; exact g.elim
  | ok a =>
    obtain ⟨t, ρ1⟩ := a
    rw [hF] at g
    intro v P' W' H' st ⟨w', rt⟩
    simp only at g
    split at g
    · rename_i hsc
      obtain ⟨P2, W2, w2, s2, hp, hw⟩ := w.lent2 st w'
      exact g v P2 W2 H' s2 ⟨w2, RT.deep hp hw hsc rt⟩
    · exact g.elim
end
/-! ### x.f = e, the value a list or dict of the field's own -/
def t1Of : T → Option T1
  | .sh d => some (.sh d)
  | .lst ds => some (.lst ds)
  | .dct ks vs => some (.dct ks vs)
  | _ => none
def sFldIO (C : Tx) (i : Nat) (f : Tx) (F : OM) : SM := fun ρ => F ρ >>= fun a => Res.of ((t1Of a.1).bind fun t => (insOf a.2 i C).bind fun fs => if fs.length < 900 then some (a.2.set i (some (.ins C (putT fs f t)))) else none) >>= fun ρ1 => .ok (.nx ρ1)
def give (W : Own) (l : Addr) (o : Option Nat × Option Tx) : Own := fun x => if x = l then some o else W x
section
variable {K : PySem.W.Frag} {mg : Str → Option Value} {P H : Hp} {W : Own} {σ : St} {ρ : Env}
theorem Wd.give {l : Addr} {i : Nat} {f : Tx} (w : Wd K mg P W H σ ρ) (h : W l = some (Option.none, Option.none)) : Wd K mg P (give W l (some i, some f)) H σ ρ := by
  refine ⟨w.same, fun a r e => ?_, fun j t e => ?_, w.len⟩
  · unfold Od.give at e
    by_cases z : a = l
    · subst z; exact w.own a _ h
    · rw [if_neg z] at e; exact w.own a r e
  · obtain ⟨v, hs, hr⟩ := w.env j t e
    refine ⟨v, hs, RT.mono (same_refl P) (fun g x ex => ⟨?_, fun o h => h⟩) t v hr⟩
    have : x ≠ l := fun z => by subst z; rw [h] at ex; cases ex
    unfold Od.give; rw [if_neg this]; exact ex
end
section
variable {X : Cx} {E : WX} {C f : Tx} {fl : List Tx} {i : Nat} {x n : Str} {pos pos' p1 : Pos} {e : Expr} {F : OM} {md : List Bool}
theorem sd_fldIO (R : ClsI X.K X.mg C fl) (hf : f ∈ fl) (hn : n = sT f) (hN : X.N[i]? = some x) (hv : Vis X.env.scope x) (he : ET X E e F) (hd : (x == ("__debug__" : Str)) = false := by decide) (hcd : (x == ("__classdict__" : Str)) = false := by decide)
    (hs : swapsWith e (some (.Attribute (.Name x p1) n pos')) pos.line X.env = pure false := by rfl) : SD X E md (.Assign [.Attribute (.Name x p1) n pos'] e pos) (sFldIO C i f F) := by
  subst hn
  refine PS.imp (ps_fld (pe_var hN hv hd hcd) he hs) fun D σ H ⟨P, W, ρ, w, g⟩ => ?_
  unfold sFldIO at g
  refine ⟨P, W, ρ, w, (GoS.val (Rel := TRel X.K X.mg) g).mono fun u H1 ⟨P1, W1, b, s1, ⟨w1, db⟩, g1⟩ => ?_⟩
  obtain ⟨ρ2, e2, g2⟩ := GoS.of g1
  obtain ⟨t, et, e2⟩ := Option.bind_eq_some_iff.mp e2
  obtain ⟨fs, e3, e4⟩ := Option.bind_eq_some_iff.mp e2
  split at e4
  · rename_i hlen
    cases e4
    obtain ⟨a, c, dx, ws, h1, h2, h3, h4, nd, l, hi⟩ := w1.insAt e3
    obtain ⟨c', t', _, ec, hna⟩ := R.ex
    obtain rfl := top_inj h3.2 t'
    refine ⟨_, h1, a, c, dx, ws, rfl, h4, ec, hna f hf, by rw [RF.len l]; omega, ?_⟩
    -- the owner of the value is the field now
    obtain ⟨W2, w2, s2, hW2, l2, h2', q2⟩ : ∃ W2, Wd X.K X.mg P1 W2 H1 σ b.2 ∧ Step P1 W1 H1 P1 W2 H1 ∧ (∀ y g, W1 y = some (some i, g) → W2 y = some (some i, g)) ∧ RF X.K P1 W2 H1 (some i) fs ws ∧ W2 a = some (some i, Option.none) ∧ R1 X.K P1 W2 H1 (some i) (some f) t u := by
      obtain ⟨b1, b2⟩ := b
      cases b1 with
      | sh d =>
        cases et
        exact ⟨W1, w1, Step.refl P1 W1 H1, fun _ _ h => h, l, h2, db⟩
      | lst ds =>
        cases et
        obtain ⟨y, vs, rfl, hw, hh, dn⟩ := db
        have mn : ∀ z g, W1 z = some (some i, g) → give W1 y (some i, some f) z = some (some i, g) := fun z g h => by
          have : z ≠ y := fun q => by subst q; rw [hw] at h; cases h
          unfold give; rw [if_neg this]; exact h
        refine ⟨give W1 y (some i, some f), w1.give hw, ⟨same_refl P1, fun z o hz wz => ⟨hz, ?_, rfl⟩⟩, mn, RF.mono (same_refl P1) (fun g z hz => ⟨mn z _ hz, fun o h => h⟩) _ _ l, mn a _ h2, y, vs, rfl, by unfold give; rw [if_pos rfl], hh, dn⟩
        have : z ≠ y := fun q => by subst q; rw [hw] at wz; cases wz
        unfold give; rw [if_neg this]; exact wz
      | dct ks ds =>
        cases et
        obtain ⟨y, vs, rfl, hw, hh, dk, dn⟩ := db
        have mn : ∀ z g, W1 z = some (some i, g) → give W1 y (some i, some f) z = some (some i, g) := fun z g h => by
          have : z ≠ y := fun q => by subst q; rw [hw] at h; cases h
          unfold give; rw [if_neg this]; exact h
        refine ⟨give W1 y (some i, some f), w1.give hw, ⟨same_refl P1, fun z o hz wz => ⟨hz, ?_, rfl⟩⟩, mn, RF.mono (same_refl P1) (fun g z hz => ⟨mn z _ hz, fun o h => h⟩) _ _ l, mn a _ h2, y, vs, rfl, by unfold give; rw [if_pos rfl], hh, dk, dn⟩
        have : z ≠ y := fun q => by subst q; rw [hw] at wz; cases wz
        unfold give; rw [if_neg this]; exact wz
      | _ => cases et
    have l3 := RF.putT (k := f) (t := t) (v := u) q2 l2
    have l4 : RF X.K P1 W2 (upd H1 a (.ins c dx (putF (sT f) u ws))) (some i) (putT fs f t) (putF (sT f) u ws) := RF.mono (same_refl P1) (fun g y hy => ⟨hy, fun o ho => by
      have : y ≠ a := fun z => by subst z; rw [h2'] at hy; cases hy
      rw [upd_ne this]; exact ho⟩) _ _ l3
    obtain ⟨w3, s3⟩ := w2.mutF (mg := X.mg) (o := .ins c dx (putF (sT f) u ws)) (t := .ins C (putT fs f t)) hi h1 h2' ⟨a, c, dx, _, rfl, h2', h3, upd_same, putT_nd nd, l4⟩
    exact g2 σ P1 W2 _ (s2.trans s3) w3 (Kp.refl md σ)
  · cases e4
end
end Od
namespace Od
open PySem PySem.Spec L2
open PyProof.Rows hiding St cutD
/-! ### x.f.m(e, ..) that changes the list of a field, x.f[e] = v; what stands in them is asked while all is lent -/
def getL1 (fs : List (Tx × T1)) (f : Tx) : Option (List D) := match getF fs f with
  | some (.lst ds) => some ds
  | _ => none
theorem getL1_some {fs : List (Tx × T1)} {f : Tx} {ds : List D} (h : getL1 fs f = some ds) : getF fs f = some (.lst ds) := by
  unfold getL1 at h
  split at h
  · rename_i e; cases h; exact e
  · cases h
def insL (ρ : Env) (i : Nat) (C f : Tx) : Option (List (Tx × T1) × List D) := (insOf ρ i C).bind fun fs => (getL1 fs f).map fun ds => (fs, ds)
def eMutF (C : Tx) (i : Nat) (f : Tx) (m : List D → List D → Option (List D × D)) (As : List EM) : EM := fun ρ => match insL ρ i C f with
  | some p => (match vL As (frzE3 ρ) with
    | .ok a => if deepL a.1 = true then Res.of (m p.2 a.1) >>= fun r => .ok (r.2, ρ.set i (some (.ins C (setF p.1 f (.lst r.1))))) else .fail
    | _ => .fail)
  | none => .fail
section
variable {K : PySem.W.Frag} {mg : Str → Option Value} {P P' P2 H H' : Hp} {W W' W2 : Own} {σ : St} {ρ ρ1 : Env} {r : Option Nat}
theorem RF.getB : ∀ {fs : List (Tx × T1)} {ws : List (Str × V)} {k : Tx} {t : T1}, RF K P W H r fs ws → getF fs k = some t → ∃ v, ws.lookup (sT k) = some v ∧ valV (ws.map gK) (.inr (sT k)) = some v ∧ R1 K P W H r (some k) t v
  | [], ws, k, t, h, e => by cases e
  | (j, u) :: fs, ws, k, t, h, e => by
    obtain ⟨v, w, rfl, h1, h2⟩ := h
    unfold getF at e
    by_cases hj : j = k
    · rw [if_pos hj] at e
      cases e
      subst hj
      exact ⟨v, by simp [List.lookup], by simp only [List.map_cons]; exact valV_pos (p := gK (sT j, v)) rfl, h1⟩
    · rw [if_neg hj] at e
      obtain ⟨v', h3, h5, h4⟩ := RF.getB h2 e
      refine ⟨v', ?_, ?_, h4⟩
      · simp [List.lookup, beq_sT (fun z => hj z.symm), h3]
      · simp only [List.map_cons]; rw [valV_neg (p := gK (sT j, v)) (fun z => hj (sT_inj (Sum.inr.inj z)))]; exact h5
theorem setF_nd {fs : List (Tx × T1)} {k : Tx} {t : T1} (h : (fs.map Prod.fst).Nodup) : ((setF fs k t).map Prod.fst).Nodup := by rw [setF_keys]; exact h
/-- the list of a field, ahead of a look with all lent and behind it -/
theorem Wd.fldL {i : Nat} {C f : Tx} {fs : List (Tx × T1)} {ds : List D} (w : Wd K mg P W H σ ρ) (e : insL ρ i C f = some (fs, ds)) : ∃ (a c dx b : Addr) (ws : List (Str × V)) (vs : List V), insOf ρ i C = some fs ∧ getF fs f = some (.lst ds) ∧ σ[i]? = some (some (.ref a)) ∧ W a = some (some i, Option.none) ∧ (mg (sT C) = some (.ref c) ∧ Top K C c) ∧ H a = some (.ins c dx ws) ∧ (fs.map Prod.fst).Nodup ∧ RF K P W H (some i) fs ws ∧ i < ρ.length ∧
    ws.lookup (sT f) = some (.ref b) ∧ valV (ws.map gK) (.inr (sT f)) = some (.ref b) ∧ W b = some (some i, some f) ∧ H b = some (.lst vs) ∧ DenL K P ds vs := by
  unfold insL at e
  obtain ⟨fs', e1, e2⟩ := Option.bind_eq_some_iff.mp e
  obtain ⟨ds', e3, e4⟩ := Option.map_eq_some_iff.mp e2
  cases e4
  obtain ⟨a, c, dx, ws, h1, h2, h3, h4, nd, l, hi⟩ := w.insAt e1
  obtain ⟨v, q1, q2, b, vs, rfl, q3, q4, q5⟩ := RF.getB l (getL1_some e3)
  exact ⟨a, c, dx, b, ws, vs, e1, getL1_some e3, h1, h2, h3, h4, nd, l, hi, q1, q2, q3, q4, q5⟩
theorem Wd.fldSet {i : Nat} {C f : Tx} {fs : List (Tx × T1)} {ds ds' : List D} {a c dx b : Addr} {ws : List (Str × V)} {vs' : List V} (w : Wd K mg P W H σ ρ) (hg : getF fs f = some (.lst ds)) (h1 : σ[i]? = some (some (.ref a))) (h2 : W a = some (some i, Option.none)) (h3 : mg (sT C) = some (.ref c) ∧ Top K C c) (h4 : H a = some (.ins c dx ws)) (nd : (fs.map Prod.fst).Nodup) (l : RF K P W H (some i) fs ws) (hi : i < ρ.length)
    (q2 : valV (ws.map gK) (.inr (sT f)) = some (.ref b)) (q3 : W b = some (some i, some f)) (q4 : H b = some (.lst vs)) (dn : DenL K P ds' vs') :
    Wd K mg P W (upd H b (.lst vs')) σ (ρ.set i (some (.ins C (setF fs f (.lst ds'))))) ∧ Step P W H P W (upd H b (.lst vs')) := by
  have ne : a ≠ b := fun z => by rw [← z, h4] at q4; cases q4
  have l3 : RF K P W (upd H b (.lst vs')) (some i) (setF fs f (.lst ds')) ws := RF.same (same_refl P) (fun g y hgf hy => ⟨hy, fun o ho => by
    have : y ≠ b := fun z => by subst z; rw [q3] at hy; cases hy; exact hgf rfl
    rw [upd_ne this]; exact ho⟩) (show R1 K P W (upd H b (.lst vs')) (some i) (some f) (.lst ds') (.ref b) from ⟨b, vs', rfl, q3, upd_same, dn⟩) hg q2 nd l
  exact w.mutF (mg := mg) (o := .lst vs') (t := .ins C (setF fs f (.lst ds'))) hi h1 q3 ⟨a, c, dx, ws, rfl, h2, h3, by rw [upd_ne ne]; exact h4, setF_nd nd, l3⟩
end
section
variable {X : Cx} {E : WX} {C f : Tx} {fl : List Tx} {i : Nat} {e : Expr} {As : List EM} {n : Str} {r : V → List V → Hp → VK → Prop}
theorem ev_mutF {m : List D → List D → Option (List D × D)} (R : ClsI X.K X.mg C fl) (hf : f ∈ fl) (hn : n = sT f) (hm : MutOk X.K r m) (hp : PE X e (tBM X.K "list" r (tFld X.K (tVar i) n) (rX X.K X.mg E (VLRel X.K X.mg) (vL As)))) : EV X E e (eMutF C i f m As) := PE.imp hp fun σ H Q ⟨P, W, ρ, w, g⟩ => by
  subst hn
  unfold eMutF at g
  split at g
  case h_2 => exact g.elim
  rename_i p e1
  obtain ⟨fs, ds⟩ := p
  obtain ⟨a, c, dx, b, ws, vs, e0, hg, h1, h2, h3, h4, nd, l, hi, q1, q2, q3, q4, q5⟩ := w.fldL e1
  obtain ⟨c', t', _, ec, hna⟩ := R.ex
  obtain rfl := top_inj h3.2 t'
  refine ⟨_, h1, a, c, dx, ws, .ref b, rfl, h4, ec, hna f hf, q1, .inl ⟨rfl, vs, SqL.of q4⟩, lend2P P H W, lendW, frzE3 ρ, w.lend3, ?_⟩
  cases hF : vL As (frzE3 ρ) with
  | fail => rw [hF] at g; exact g.elim
  | exc x r => rw [hF] at g; exact g.elim
  | ok av =>
    rw [hF] at g
    intro avs P' W' H' st hv
    obtain ⟨P2, W2, w2, s2, hpd, _⟩ := w.lent2 st (ρ1 := av.2) hv.1
    have kb : H' b = some (.lst vs) := (st.2 b _ q4 rfl).1
    have ka : H' a = some (.ins c dx ws) := (st.2 a _ h4 rfl).1
    simp only at g
    split at g
    case isFalse => exact g.elim
    rename_i hsc
    obtain ⟨res, e3, g3⟩ := Go.of g
    obtain ⟨a', c2, dx2, b2, ws2, vs2, _, hg2, p1, p2, p3, p4, nd2, l2, hi2, u1, u2, u3, u4, u5⟩ := w2.fldL e1
    rw [h1] at p1; cases p1
    rw [ka] at p4; cases p4
    rw [q1] at u1; cases u1
    rw [kb] at u4; cases u4
    refine hm P2 H' b vs avs ds av.1 res.1 res.2 Q w2.same kb u5 (den_deepL hpd _ _ hsc hv.2) e3 fun v vs' dn' dv => ?_
    obtain ⟨w3, s3⟩ := w2.fldSet (ds' := res.1) (vs' := vs') hg h1 p2 p3 ka nd l2 hi2 u2 u3 kb dn'
    exact g3 v P2 W2 _ (s2.trans s3) ⟨w3, dv⟩
end
section
variable {X : Cx} {C f : Tx} {fl : List Tx} {i : Nat} {x n : Str} {p1 p2 pos : Pos} {e : Expr} {B : EM} {sl : List Nat}
end
/-! ### x.m(e, ..), x a shared instance -/
def eCallMS (C m : Tx) (fn : Fn) (i : Nat) (As : List Arg) : OM := fun ρ => match ρ[i]? with
  | some (some (.sh (.obj c ks vs))) => if c = C ∧ m ∉ ks then eCall fn (.io i :: As) ρ else .fail
  | _ => .fail
section
variable {X : Cx} {E : WX} {C m f : Tx} {fl : List Tx} {i k : Nat} {x n : Str} {fn : Fn} {p1 apos pos pos' : Pos} {e : Expr} {es : List Expr} {As : List Arg} {F : EM} {md : List Bool}
end
end Od
namespace Od
open PySem PySem.Spec L2
open PyProof.Rows hiding St cutD
/-! ### how Od83's and Od84's are read -/
section
variable {ρ : Env} {Φ : D × Env → Prop} {ΦB : Bool × Env → Prop} {ΦT : T × Env → Prop} {Ψ : Exn → Env → Prop} {ΦE : Env → Prop} {ΦO : Option T → Prop} {ΦS : Fl → Prop} {ΦL : List D → Prop} {ΦD : D → Prop}
theorem s_lend3 (F : EM) : sat (eLend3 F ρ) Φ Ψ = cps (frzE3 ρ) fun ρ0 => sat (F ρ0) (fun a => scalD a.1 = true ∧ Φ (a.1, ρ)) (fun _ _ => False) := by
  unfold eLend3
  show _ = sat (F (frzE3 ρ)) _ _
  generalize F (frzE3 ρ) = z
  cases z with
  | fail => rfl
  | exc x r => rfl
  | ok a =>
    show sat (if scalD a.1 = true then _ else _) Φ Ψ = (scalD a.1 = true ∧ Φ (a.1, ρ))
    by_cases hs : scalD a.1 = true
    · rw [if_pos hs]; exact (propext ⟨fun h => ⟨hs, h⟩, fun h => h.2⟩)
    · rw [if_neg hs]; exact (propext ⟨fun h => h.elim, fun h => hs h.1⟩)
theorem s_blend3 (C : BM) : sat (bLend3 C ρ) ΦB Ψ = cps (frzE3 ρ) fun ρ0 => sat (C ρ0) (fun a => ΦB (a.1, ρ)) (fun _ _ => False) := by
  unfold bLend3
  show _ = sat (C (frzE3 ρ)) _ _
  generalize C (frzE3 ρ) = z
  cases z <;> rfl
theorem s_tlend3 (F : OM) : sat (tLend3 F ρ) ΦT Ψ = cps (frzE3 ρ) fun ρ0 => sat (F ρ0) (fun a => deepT a.1 = true ∧ ΦT (a.1, ρ)) (fun _ _ => False) := by
  unfold tLend3
  show _ = sat (F (frzE3 ρ)) _ _
  generalize F (frzE3 ρ) = z
  cases z with
  | fail => rfl
  | exc x r => rfl
  | ok a =>
    obtain ⟨t, r⟩ := a
    show sat (if deepT t = true then Res.ok (t, ρ) else .fail) ΦT Ψ = _
    rw [sat_iteF]; rfl
theorem c_fri0 : cps (frzE3 []) ΦE = ΦE [] := rfl
theorem c_fri1 (o : Option T) : cps (frzE3 (o :: ρ)) ΦE = cps (frzO3 o) fun o' => cps (frzE3 ρ) fun r => ΦE (o' :: r) := rfl
theorem c_frin : cps (frzO3 Option.none) ΦO = ΦO Option.none := rfl
theorem c_fris (d : D) : cps (frzO3 (some (.sh d))) ΦO = ΦO (some (.sh d)) := rfl
theorem c_fril (ds : List D) : cps (frzO3 (some (.lst ds))) ΦO = ΦO (some (.sh (.lst ds))) := rfl
theorem c_frid (ks : List DK) (ds : List D) : cps (frzO3 (some (.dct ks ds))) ΦO = ΦO (some (.sh (.dct ks ds))) := rfl
theorem c_frir (fs : List (Tx × T1)) : cps (frzO3 (some (.rcd fs))) ΦO = ΦO Option.none := rfl
theorem c_friq (ts : List T1) : cps (frzO3 (some (.seq false ts))) ΦO = ΦO (some (.sh (.lst (ts.map d1)))) := rfl
theorem c_friQ (ts : List T1) : cps (frzO3 (some (.seq true ts))) ΦO = ΦO Option.none := rfl
theorem c_frii (C : Tx) (fs : List (Tx × T1)) : cps (frzO3 (some (.ins C fs))) ΦO = ΦO (some (.sh (.obj C (fs.map Prod.fst) (fs.map fun p => d1 p.2)))) := rfl
/-- a part of a lent one -/
def getD1 (fs : List (Tx × T1)) (f : Tx) : Option D := (getF fs f).map d1
theorem lkX_get1 : ∀ (fs : List (Tx × T1)) (f : Tx), lkX (fs.map Prod.fst) (fs.map fun p => d1 p.2) f = getD1 fs f
  | [], f => rfl
  | (k, t) :: fs, f => by
    show (if k = f then some (d1 t) else lkX (fs.map Prod.fst) (fs.map fun p => d1 p.2) f) = ((if k = f then some t else getF fs f) : Option T1).map d1
    rw [lkX_get1 fs f]
    split <;> rfl
theorem x_lkXD (fs : List (Tx × T1)) (f : Tx) : ex (lkX (fs.map Prod.fst) (fs.map fun p => d1 p.2) f) ΦD = ex (getD1 fs f) ΦD := by rw [lkX_get1]
theorem k_getD11 (f : Tx) (t : T1) (fs : List (Tx × T1)) : ex (getD1 ((f, t) :: fs) f) ΦD = ΦD (d1 t) := by unfold getD1 getF; rw [if_pos rfl]; rfl
theorem k_getD12 (f g : Tx) (t : T1) (fs : List (Tx × T1)) (h : decide (g = f) = false) : ex (getD1 ((g, t) :: fs) f) ΦD = ex (getD1 fs f) ΦD := by unfold getD1; rw [show getF ((g, t) :: fs) f = getF fs f from by rw [getF, if_neg (of_decide_eq_false h)]]
variable {ΦP : List (Tx × T1) × List D → Prop} {x : Option T} {i : Nat} {C f : Tx}
theorem k_insL0 (fs : List (Tx × T1)) : ex (insL (some (.ins C fs) :: ρ) 0 C f) ΦP = ex (getL1 fs f) fun ds => ΦP (fs, ds) := by
  show ex ((if C = C then some fs else none).bind fun fs => (getL1 fs f).map fun ds => (fs, ds)) ΦP = _
  rw [if_pos rfl]
  show ex ((getL1 fs f).map _) ΦP = _
  rw [ex_map]
theorem k_insLs : ex (insL (x :: ρ) (i + 1) C f) ΦP = ex (insL ρ i C f) ΦP := rfl
theorem k_getL11 (f : Tx) (ds : List D) (fs : List (Tx × T1)) : ex (getL1 ((f, .lst ds) :: fs) f) ΦL = ΦL ds := by unfold getL1 getF; rw [if_pos rfl]; rfl
theorem k_getL12 (f g : Tx) (t : T1) (fs : List (Tx × T1)) (h : decide (g = f) = false) : ex (getL1 ((g, t) :: fs) f) ΦL = ex (getL1 fs f) ΦL := by unfold getL1; rw [show getF ((g, t) :: fs) f = getF fs f from by rw [getF, if_neg (of_decide_eq_false h)]]
theorem s_eMutF (C : Tx) (i : Nat) (f : Tx) (m : List D → List D → Option (List D × D)) (As : List EM) : sat (eMutF C i f m As ρ) Φ Ψ = ex (insL ρ i C f) fun p => cps (frzE3 ρ) fun ρ0 => sat (vL As ρ0) (fun a => deepL a.1 = true ∧ ex (m p.2 a.1) fun r => cps (List.set ρ i (some (.ins C (setF p.1 f (.lst r.1))))) fun ρ' => Φ (r.2, ρ')) (fun _ _ => False) := by
  unfold eMutF
  cases insL ρ i C f with
  | none => rfl
  | some p =>
    show sat (match vL As (frzE3 ρ) with | .ok a => _ | _ => .fail) Φ Ψ = sat (vL As (frzE3 ρ)) _ _
    generalize vL As (frzE3 ρ) = z
    cases z with
    | fail => rfl
    | exc x r => rfl
    | ok a =>
      show sat (if deepL a.1 = true then _ else _) Φ Ψ = (_ ∧ _)
      rw [sat_iteF]
      congr 1
      show sat (Res.of (m p.2 a.1) >>= _) Φ Ψ = _
      rw [sat_bind, sat_of]; rfl
theorem s_sFldIO (C : Tx) (i : Nat) (f : Tx) (F : OM) : sat (sFldIO C i f F ρ) ΦS Ψ = sat (F ρ) (fun a => ex (t1Of a.1) fun t => ex (insOf a.2 i C) fun fs => fs.length < 900 ∧ cps (List.set a.2 i (some (.ins C (putT fs f t)))) fun r => ΦS (.nx r)) Ψ := by
  unfold sFldIO
  rw [sat_bind]; congr 1; funext a
  rw [sat_bind, sat_of, ex_bind]; congr 1; funext t
  rw [ex_bind]; congr 1; funext fs
  rw [ex_ite]; rfl
variable {Φ1 : T1 → Prop}
theorem x_t1Os (d : D) : ex (t1Of (.sh d)) Φ1 = Φ1 (.sh d) := rfl
theorem x_t1Ol (ds : List D) : ex (t1Of (.lst ds)) Φ1 = Φ1 (.lst ds) := rfl
theorem x_t1Od (ks : List DK) (ds : List D) : ex (t1Of (.dct ks ds)) Φ1 = Φ1 (.dct ks ds) := rfl
theorem s_eCallMS (C m : Tx) (fn : Fn) (i : Nat) (As : List Arg) {c : Tx} {ks : List Tx} {vs : List D} (h : ρ[i]? = some (some (.sh (.obj c ks vs)))) : sat (eCallMS C m fn i As ρ) ΦT Ψ = ((c = C ∧ m ∉ ks) ∧ sat (eCall fn (.io i :: As) ρ) ΦT Ψ) := by
  unfold eCallMS
  rw [h]
  show sat (if c = C ∧ m ∉ ks then _ else .fail) ΦT Ψ = _
  rw [sat_iteF]
end
end Od
namespace Od
open PySem PySem.Spec L2
open PyProof.Rows hiding St cutD
/-! ### x.f[k] = v, the field a dict of its own -/
def getD2 (fs : List (Tx × T1)) (f : Tx) : Option (List DK × List D) := match getF fs f with
  | some (.dct ks ds) => some (ks, ds)
  | _ => none
theorem getD2_some {fs : List (Tx × T1)} {f : Tx} {r : List DK × List D} (h : getD2 fs f = some r) : getF fs f = some (.dct r.1 r.2) := by
  unfold getD2 at h
  split at h
  · rename_i e; cases h; exact e
  · cases h
def insD (ρ : Env) (i : Nat) (C f : Tx) : Option (List (Tx × T1) × (List DK × List D)) := (insOf ρ i C).bind fun fs => (getD2 fs f).map fun r => (fs, r)
def gDxF (C : Tx) (i : Nat) (f : Tx) (B : EM) : GM := fun d ρ => match insD ρ i C f with
  | some p => (match B (frzE3 ρ) with
    | .ok (kd, _) => (keyD kd).bind fun k => if p.2.1.length < 1000000 then some (ρ.set i (some (.ins C (setF p.1 f (.dct (putKD p.2.1 p.2.2 k d).1 (putKD p.2.1 p.2.2 k d).2))))) else none
    | _ => none)
  | none => none
section
variable {K : PySem.W.Frag} {mg : Str → Option Value} {P P' P2 H H' : Hp} {W W' W2 : Own} {σ : St} {ρ ρ1 : Env} {r : Option Nat}
theorem Wd.fldD {i : Nat} {C f : Tx} {fs : List (Tx × T1)} {r : List DK × List D} (w : Wd K mg P W H σ ρ) (e : insD ρ i C f = some (fs, r)) : ∃ (a c dx b : Addr) (ws : List (Str × V)) (vs : List (Key × V)), insOf ρ i C = some fs ∧ getF fs f = some (.dct r.1 r.2) ∧ σ[i]? = some (some (.ref a)) ∧ W a = some (some i, Option.none) ∧ (mg (sT C) = some (.ref c) ∧ Top K C c) ∧ H a = some (.ins c dx ws) ∧ (fs.map Prod.fst).Nodup ∧ RF K P W H (some i) fs ws ∧ i < ρ.length ∧
    ws.lookup (sT f) = some (.ref b) ∧ valV (ws.map gK) (.inr (sT f)) = some (.ref b) ∧ W b = some (some i, some f) ∧ H b = some (.dK vs) ∧ vs.map Prod.fst = r.1.map kK ∧ DenL K P r.2 (vs.map Prod.snd) := by
  unfold insD at e
  obtain ⟨fs', e1, e2⟩ := Option.bind_eq_some_iff.mp e
  obtain ⟨r', e3, e4⟩ := Option.map_eq_some_iff.mp e2
  cases e4
  obtain ⟨a, c, dx, ws, h1, h2, h3, h4, nd, l, hi⟩ := w.insAt e1
  obtain ⟨v, q1, q2, b, vs, rfl, q3, q4, q5, q6⟩ := RF.getB l (getD2_some e3)
  exact ⟨a, c, dx, b, ws, vs, e1, getD2_some e3, h1, h2, h3, h4, nd, l, hi, q1, q2, q3, q4, q5, q6⟩
theorem Wd.fldSetD {i : Nat} {C f : Tx} {fs : List (Tx × T1)} {t0 : T1} {ks' : List DK} {ds' : List D} {a c dx b : Addr} {ws : List (Str × V)} {vs vs' : List (Key × V)} (w : Wd K mg P W H σ ρ) (hg : getF fs f = some t0) (h1 : σ[i]? = some (some (.ref a))) (h2 : W a = some (some i, Option.none)) (h3 : mg (sT C) = some (.ref c) ∧ Top K C c) (h4 : H a = some (.ins c dx ws)) (nd : (fs.map Prod.fst).Nodup) (l : RF K P W H (some i) fs ws) (hi : i < ρ.length)
    (q2 : valV (ws.map gK) (.inr (sT f)) = some (.ref b)) (q3 : W b = some (some i, some f)) (q4 : H b = some (.dK vs)) (dk : vs'.map Prod.fst = ks'.map kK) (dn : DenL K P ds' (vs'.map Prod.snd)) :
    Wd K mg P W (upd H b (.dK vs')) σ (ρ.set i (some (.ins C (setF fs f (.dct ks' ds'))))) ∧ Step P W H P W (upd H b (.dK vs')) := by
  have ne : a ≠ b := fun z => by rw [← z, h4] at q4; cases q4
  have l3 : RF K P W (upd H b (.dK vs')) (some i) (setF fs f (.dct ks' ds')) ws := RF.same (same_refl P) (fun g y hgf hy => ⟨hy, fun o ho => by
    have : y ≠ b := fun z => by subst z; rw [q3] at hy; cases hy; exact hgf rfl
    rw [upd_ne this]; exact ho⟩) (show R1 K P W (upd H b (.dK vs')) (some i) (some f) (.dct ks' ds') (.ref b) from ⟨b, vs', rfl, q3, upd_same, dk, dn⟩) hg q2 nd l
  exact w.mutF (mg := mg) (o := .dK vs') (t := .ins C (setF fs f (.dct ks' ds'))) hi h1 q3 ⟨a, c, dx, ws, rfl, h2, h3, by rw [upd_ne ne]; exact h4, setF_nd nd, l3⟩
end
section
variable {X : Cx} {C f : Tx} {fl : List Tx} {i : Nat} {x n : Str} {p1 p2 pos : Pos} {e : Expr} {B : EM} {sl : List Nat}
theorem gd_dxF (hu : X.A.units + 1 < cLine) (R : ClsI X.K X.mg C fl) (hf : f ∈ fl) (hn : n = sT f) (hN : X.N[i]? = some x) (hv : Vis X.env.scope x) (hB : EV X E0 e B) (hd : (x == ("__debug__" : Str)) = false := by decide) (hcd : (x == ("__classdict__" : Str)) = false := by decide)
    (hb : attributeBase (.Name x p1) n X.env (eval (.Name x p1) X.env) = eval (.Name x p1) X.env := by rfl)
    (ha : ∀ v, assign (.Subscript (.Attribute (.Name x p1) n p2) e pos) X.env v = (do
      let ov ← holding [v] (eval (.Attribute (.Name x p1) n p2) X.env)
      let iv ← holding [v, ov] (eval e X.env)
      standAt pos
      holding [v, ov, iv] (setItem ov iv v)
      release [v, ov, iv] []) := by intro _; rfl) : GD X sl (.Subscript (.Attribute (.Name x p1) n p2) e pos) (gDxF C i f B) := by
  subst hn
  exact PG.imp (pg_sub (pe_fld (pe_var hN hv hd hcd) hb) hB (set_dict hu) ha) fun v σ H Q ⟨P, W, ρ, d, ρ', w, dn, e, q⟩ => by
    unfold gDxF at e
    split at e
    case h_2 => cases e
    rename_i p e1
    obtain ⟨fs, r⟩ := p
    obtain ⟨a, c, dx, b, ws, vs, e0, hg, h1, h2, h3, h4, nd, l, hi, q1, q2, q3, q4, q5, q6⟩ := w.fldD e1
    obtain ⟨c', t', _, ec, hna⟩ := R.ex
    obtain rfl := top_inj h3.2 t'
    refine ⟨_, h1, a, c, dx, ws, .ref b, rfl, h4, ec, hna f hf, q1, lend2P P H W, lendW, frzE3 ρ, w.lend3, ?_⟩
    cases hF : B (frzE3 ρ) with
    | fail => rw [hF] at e; cases e
    | exc y ρ1 => rw [hF] at e; cases e
    | ok rb =>
      obtain ⟨t, ρ1⟩ := rb
      rw [hF] at e
      obtain ⟨k, ek, e⟩ := Option.bind_eq_some_iff.mp e
      split at e
      · rename_i hn
        cases e
        intro y P' W' H' st ⟨w1, dy⟩
        obtain ⟨P2, W2, w2, s2, _, _⟩ := w.lent2 st (ρ1 := ρ1) w1
        have kb : H' b = some (.dK vs) := (st.2 b _ q4 rfl).1
        have ka : H' a = some (.ins c dx ws) := (st.2 a _ h4 rfl).1
        obtain ⟨a', c2, dx2, b2, ws2, vs2, _, hg2, p1, p2, p3, p4, nd2, l2, hi2, u1, u2, u3, u4, u5, u6⟩ := w2.fldD e1
        rw [h1] at p1; cases p1
        rw [ka] at p4; cases p4
        rw [q1] at u1; cases u1
        rw [kb] at u4; cases u4
        obtain rfl := keyD_den ek dy
        have hwl : vs.length = r.1.length := by have := congrArg List.length u5; simpa using this
        refine ⟨b, _, rfl, DPut.k kb (by rw [hwl]; exact Nat.lt_of_lt_of_le hn (by decide)), ?_⟩
        obtain ⟨g1, g2⟩ := putK_den (k := k) u5 u6 (Den.mono s2.1 _ _ dn)
        obtain ⟨w3, s3⟩ := w2.fldSetD (vs' := putK vs (kK k) v) hg h1 p2 p3 ka nd l2 hi2 u2 u3 kb g1 g2
        exact q σ P2 W2 _ (s2.trans s3) w3 (Ke.refl sl σ)
      · cases e
end
section
variable {ρ : Env} {ΦE : Env → Prop} {ΦQ : List (Tx × T1) × (List DK × List D) → Prop} {ΦR : List DK × List D → Prop} {x : Option T} {i : Nat} {C f : Tx}
theorem k_insD0 (fs : List (Tx × T1)) : ex (insD (some (.ins C fs) :: ρ) 0 C f) ΦQ = ex (getD2 fs f) fun r => ΦQ (fs, r) := by
  show ex ((if C = C then some fs else none).bind fun fs => (getD2 fs f).map fun r => (fs, r)) ΦQ = _
  rw [if_pos rfl]
  show ex ((getD2 fs f).map _) ΦQ = _
  rw [ex_map]
theorem k_insDs : ex (insD (x :: ρ) (i + 1) C f) ΦQ = ex (insD ρ i C f) ΦQ := rfl
theorem k_getD21 (f : Tx) (ks : List DK) (ds : List D) (fs : List (Tx × T1)) : ex (getD2 ((f, .dct ks ds) :: fs) f) ΦR = ΦR (ks, ds) := by unfold getD2 getF; rw [if_pos rfl]; rfl
theorem k_getD22 (f g : Tx) (t : T1) (fs : List (Tx × T1)) (h : decide (g = f) = false) : ex (getD2 ((g, t) :: fs) f) ΦR = ex (getD2 fs f) ΦR := by unfold getD2; rw [show getF ((g, t) :: fs) f = getF fs f from by rw [getF, if_neg (of_decide_eq_false h)]]
theorem m_gDxF (C : Tx) (i : Nat) (f : Tx) (B : EM) (d : D) : ex (gDxF C i f B d ρ) ΦE = ex (insD ρ i C f) fun p => cps (frzE3 ρ) fun ρ0 => sat (B ρ0) (fun a => ex (keyD a.1) fun k => p.2.1.length < 1000000 ∧ cps (List.set ρ i (some (.ins C (setF p.1 f (.dct (putKD p.2.1 p.2.2 k d).1 (putKD p.2.1 p.2.2 k d).2))))) ΦE) (fun _ _ => False) := by
  unfold gDxF
  cases insD ρ i C f with
  | none => rfl
  | some p =>
    show ex (match B (frzE3 ρ) with | .ok (kd, _) => _ | _ => none) ΦE = sat (B (frzE3 ρ)) _ _
    generalize B (frzE3 ρ) = z
    cases z with
    | fail => rfl
    | exc x r => rfl
    | ok a =>
      obtain ⟨b, ρ1⟩ := a
      show ex (Option.bind _ _) ΦE = ex (keyD b) _
      rw [ex_bind]; congr 1; funext k
      rw [ex_ite]; rfl
end
end Od
/-! ### list(d) of a dict -/
namespace Od
open PySem PySem.Spec L2
open PyProof.Rows hiding St cutD
def fListK : List D → Option (List D)
  | [.dct ks _] => some (ks.map kyD)
  | _ => none
theorem keys_den {K : PySem.W.Frag} {P : Hp} : ∀ {ws : List (Key × V)} {ks : List DK}, ws.map Prod.fst = ks.map kK → DenL K P (ks.map kyD) (ws.map fun kv => kV kv.1)
  | [], [], _ => DenL.nil
  | [], _ :: _, e => by cases e
  | _ :: _, [], e => by cases e
  | w :: ws, k :: ks, e => by
    rw [List.map_cons, List.map_cons] at e
    obtain ⟨e1, e2⟩ := List.cons.inj e
    rw [List.map_cons, List.map_cons]
    refine DenL.cons ?_ (keys_den e2)
    rw [e1]
    exact kyD_den k
theorem f_listK {K : PySem.W.Frag} : CbL K rListD fListK := by
  intro P H vs ds res Q s v hf q
  unfold fListK at hf
  split at hf
  · cases hf
    obtain ⟨x, rfl, h⟩ := vl1 v
    obtain ⟨b, ws, rfl, hb, hk, l⟩ : ∃ (b : Addr) (ws : List (Key × V)), x = V.ref b ∧ H b = some (.dK ws) ∧ _ ∧ _ := h
    exact ⟨b, ws, rfl, hb, fun p n => q p _ n (keys_den hk)⟩
  · cases hf
theorem x_listk (ks : List DK) (ds : List D) {ΦL : List D → Prop} : ex (fListK [.dct ks ds]) ΦL = ΦL (ks.map kyD) := rfl
theorem x_lendct (ks : List DK) (ds : List D) {Φ : D → Prop} : ex (fLen [.dct ks ds]) Φ = Φ (.int ks.length) := rfl
end Od

namespace OdW
open PySem PySem.Spec L2 Od
open PyProof.Rows hiding St
def topS (i : Nat) : Stmt := PySem.Challenge.pw_oddlong_k81_sheets_spoilt_anywhere.main.body.getD i (.Pass ⟨0, 0, 0, 0⟩)
abbrev rs_ : List Tx := [[66, 97, 100, 82, 111, 119]]
abbrev ts_ : List Tx := [[66, 97, 100, 82, 111, 119], [66, 97, 100, 84, 101, 120, 116], [78, 111, 70, 111, 114, 109], [78, 111, 78, 97, 109, 101], [78, 111, 80, 108, 97, 99, 101], [78, 111, 84, 97, 114, 103, 101, 116], [79, 100, 100, 69, 114, 114, 111, 114], [84, 111, 111, 70, 97, 114], [84, 111, 111, 70, 117, 108, 108]]
abbrev fl_ : List Tx := [[114, 111, 119]]
abbrev s__BadRow : Stmt := inClass (topS 9) 0
theorem sc__BadRow : FnScope ["self", "row"] ["self", "row"] (defScope s__BadRow) := ⟨rfl, rfl, rfl, by decide +kernel, rfl, by decide +kernel, by decide +kernel⟩
abbrev s__law_begin : Stmt := topS 28
theorem sc__law_begin : FnScope ["_law_script", "_law_cells"] ["_law_script"] (defScope s__law_begin) := ⟨rfl, rfl, rfl, by decide +kernel, rfl, by decide +kernel, by decide +kernel⟩
def B__law_begin : SM :=
  sSeq (sSet 1 (tCBL fList [hV (eFz (tCut (hSc 0) oN (oS (eC (.int 63)))))])) <|
    sSeq (sIf (b2 fEq (hSc 1) (hV (eFz (tLst [])))) (sSet 1 (tLst [eC (.int 11)])) sNil) <|
    sRet (tRcd2 [99, 101, 108, 108, 115] (tMv 1) [116, 117, 114, 110] (eC (.int 0)))
def f__law_begin : Fn := fnOf 2 1 [false] B__law_begin
abbrev s__law_take : Stmt := topS 29
theorem sc__law_take : FnScope ["_law_state", "_law_many_here", "_law_turn", "_law_place", "_law_cell", "_law_digit", "_law_mixed"] ["_law_state", "_law_many_here"] (defScope s__law_take) := ⟨rfl, rfl, rfl, by decide +kernel, rfl, by decide +kernel, by decide +kernel⟩
def B__law_take : SM :=
  sSeq (sSetV 2 (e2 fAdd (hV (eFld 0 [116, 117, 114, 110])) (hV (eC (.int 1))))) <|
    sSeq (sFld 0 [116, 117, 114, 110] (eV 2)) <|
    sSeq (sSetV 3 (e2 fMod (hSc 2) (hV (eFldLen 0 [99, 101, 108, 108, 115])))) <|
    sSeq (sSetV 4 (eFldIx 0 [99, 101, 108, 108, 115] 3)) <|
    sSeq (sIf (b2 cGe (hSc 4) (hV (e2 fPow (hV (eC (.int 10))) (hV (eC (.int 18)))))) (sSeq (sAsg (gTp [gFldIx 0 [99, 101, 108, 108, 115] 3, gNm 5]) (eCB fDivmod [hSc 4, hSc 1])) <|
    sRetV (eV 5)) sNil) <|
    sSeq (sSetV 6 (e2 fMod (hV (e2 fMul (hV (e2 fAdd (hV (e2 fAdd (hV (e2 fMod (hSc 4) (hV (eC (.int 2147483629))))) (hV (e2 fMul (hV (e2 fMul (hSc 2) (hSc 2))) (hV (eC (.int 7919))))))) (hV (eC (.int 11))))) (hV (eC (.int 48271))))) (hV (eC (.int 2147483647))))) <|
    sSeq (sSetV 6 (e2 fMod (hV (e2 fMul (hSc 6) (hSc 6))) (hV (eC (.int 2147483587))))) <|
    sRetV (e2 fMod (hV (e2 fFdiv (hV (e2 fMod (hV (e2 fMul (hV (e2 fAdd (hSc 6) (hV (e2 fMul (hSc 2) (hV (eC (.int 104729))))))) (hV (eC (.int 69621))))) (hV (eC (.int 2147483629))))) (hV (eC (.int 64))))) (hSc 1))
def f__law_take : Fn := fnOf 7 2 [true, false] B__law_take
abbrev s__law_program : Stmt := topS 30
theorem sc__law_program : FnScope ["_law_state", "_law_many_here", "_law_found", "_law_k", "_law_way", "_law_spot", "_law_other", "_law_at"] ["_law_state", "_law_many_here"] (defScope s__law_program) := ⟨rfl, rfl, rfl, by decide +kernel, rfl, by decide +kernel, by decide +kernel⟩
def B__law_program : SM :=
  sSeq (sSet 2 (tLst [])) <|
    sSeq (sFor (gNm 3) (iArg rng1 [eV 1]) (sWipe [3, 4, 5, 6, 7] (sSeq (sSetV 4 (eFz (eCall f__law_take [.io 0, .v (eC (.int 12))]))) <|
    sSeq (sSetV 5 (e2 fIdx (hV (eC (.str [97, 98, 99, 100]))) (hV (eFz (eCall f__law_take [.io 0, .v (eC (.int 4))]))))) <|
    sSeq (sSetV 6 (e2 fIdx (hV (eC (.str [97, 98, 99, 100]))) (hV (eFz (eCall f__law_take [.io 0, .v (eC (.int 4))]))))) <|
    sSeq (sSetV 7 (e2 fIdx (hV (eFz (tLst [eFz (eCall f__law_take [.io 0, .v (e2 fAdd (hSc 1) (hV (eC (.int 1))))]), eCB fMin [hSc 1, hV (eCB fMax [hV (eC (.int 0)), hV (e2 fAdd (hV (e2 fSub (hSc 3) (hV (eC (.int 3))))) (hV (eFz (eCall f__law_take [.io 0, .v (eC (.int 8))]))))])]]))) (hV (eFz (eCall f__law_take [.io 0, .v (eC (.int 2))]))))) <|
    sIf (b2 cLt (hSc 4) (hV (eC (.int 3)))) (sExpr (eMut 2 mAppend [eTup [eC (.str [115, 101, 116]), eV 5, e2 fIdx (hV (eFz (tLst [eFz (eCall f__law_take [.io 0, .v (eC (.int 256))]), eFz (eCall f__law_take [.io 0, .v (eC (.int 4))])]))) (hV (eFz (eCall f__law_take [.io 0, .v (eC (.int 2))])))]])) (sIf (b2 cLt (hSc 4) (hV (eC (.int 5)))) (sExpr (eMut 2 mAppend [eTup [e2 fIdx (hV (eFz (tLst [eC (.str [97, 100, 100]), eC (.str [116, 97, 107, 101])]))) (hV (e2 fSub (hSc 4) (hV (eC (.int 3))))), eV 5, eV 6]])) (sIf (b2 cLt (hSc 4) (hV (eC (.int 8)))) (sExpr (eMut 2 mAppend [eTup [e2 fIdx (hV (eFz (tLst [eC (.str [116, 101, 108, 108]), eC (.str [97, 115, 107]), eC (.str [116, 101, 108, 108])]))) (hV (e2 fSub (hSc 4) (hV (eC (.int 5))))), eV 5]])) (sIf (bAnd (b2 fEq (hSc 4) (hV (eC (.int 11)))) (b2 fEq (hV (eFz (eCall f__law_take [.io 0, .v (eC (.int 3))]))) (hV (eC (.int 0))))) (sExpr (eMut 2 mAppend [eTup [eC (.str [115, 116, 111, 112])]])) (sExpr (eMut 2 mAppend [eIf (b2 cGt (hSc 4) (hV (eC (.int 8)))) (eTup [eC (.str [122, 101, 114, 111]), eV 5, eV 7]) (eTup [eC (.str [106, 117, 109, 112]), eV 7])])))))))) <|
    sRet (tMv 2)
def f__law_program : Fn := fnOf 8 2 [true, false] B__law_program
abbrev s__law_word : Stmt := topS 31
theorem sc__law_word : FnScope ["_law_state", "_law_most", "_law_letters", "_law_turn"] ["_law_state", "_law_most"] (defScope s__law_word) := ⟨rfl, rfl, rfl, by decide +kernel, rfl, by decide +kernel, by decide +kernel⟩
def B__law_word : SM :=
  sSeq (sSetV 2 (eC (.str [97, 98, 99, 100, 101, 102, 103, 104, 105, 106, 107, 108, 109, 110, 111, 112, 113, 114, 115, 116, 117, 118, 119, 120, 121, 122]))) <|
    sRetV (eBM .str mJoin (hV (eC (.str []))) [hV (eFz (tComp [3] (gNm 3) (iArg rng1 [e2 fAdd (hV (eC (.int 1))) (hV (eFz (eCall f__law_take [.io 0, .v (eV 1)])))]) bTrue (e2 fIdx (hSc 2) (hV (eFz (eCall f__law_take [.io 0, .v (eC (.int 26))]))))))])
def f__law_word : Fn := fnOf 4 2 [true, false] B__law_word
abbrev s__law_sheet : Stmt := topS 36
theorem sc__law_sheet : FnScope ["_law_state", "_law_program_here", "_law_empty", "_law_names", "_law_letters", "_law_labels", "_law_rows", "_law_place", "_law_row", "_law_part"] ["_law_state", "_law_program_here", "_law_empty"] (defScope s__law_sheet) := ⟨rfl, rfl, rfl, by decide +kernel, rfl, by decide +kernel, by decide +kernel⟩
def B__law_sheet : SM :=
  sSeq (sSet 3 tD0) <|
    sSeq (sSet 4 (tSh (eC (.str [122, 121, 120, 119, 118, 117, 116, 115, 114, 113, 112, 111, 110, 109, 108, 107, 106, 105, 104, 103, 102, 101, 100, 99, 98, 97])))) <|
    sSeq (sWhile 1000000 (b2 cLt (hV (eCB fLen [hSc 3])) (hV (e2 fAdd (hV (eCB fLen [hSc 1])) (hV (eC (.int 4)))))) (sAsg (gDx 3 (e2 fAdd (hV (e2 fAdd (hV (eFz (eCall f__law_word [.io 0, .v (eC (.int 6))]))) (hV (e2 fIdx (hSc 4) (hV (e2 fFdiv (hV (eCB fLen [hSc 3])) (hV (eC (.int 26))))))))) (hV (e2 fIdx (hSc 4) (hV (e2 fMod (hV (eCB fLen [hSc 3])) (hV (eC (.int 26))))))))) (eC (.bl true)))) <|
    sSeq (sSetV 5 (eFz (tCBL fListK [hSc 3]))) <|
    sSeq (sSet 6 (tLst [])) <|
    sSeq (sFor (gNm 7) (iArg rng1 [e2 fAdd (hV (eCB fLen [hSc 1])) (hV (eC (.int 1)))]) (sWipe [7] (sSeq (sIf (bOr (b2 cIn (hSc 7) (hV (eFz (tComp [8] (gNm 8) (iSeq (eV 1)) (b2 cIn (hV (e2 fIdx (hSc 8) (hV (eC (.int 0))))) (hV (eTup [eC (.str [106, 117, 109, 112]), eC (.str [122, 101, 114, 111])]))) (e2 fIdx (hSc 8) (hV (e1 fNeg (hV (eC (.int 1)))))))))) (b2 fEq (hV (eFz (eCall f__law_take [.io 0, .v (eC (.int 6))]))) (hV (eC (.int 0))))) (sExpr (eMut 6 mAppend [e2 fAdd (hV (e2 fIdx (hSc 5) (hSc 7))) (hV (eC (.str [58])))])) sNil) <|
    sSeq (sIf (bAnd (b2 cLt (hSc 7) (hV (eC (.int 3)))) (b2 fEq (hV (eFz (eCall f__law_take [.io 0, .v (eC (.int 8))]))) (hV (eC (.int 0))))) (sExpr (eMut 6 mAppend [e2 fAdd (hV (e2 fIdx (hSc 5) (hV (e2 fAdd (hV (e2 fAdd (hV (eCB fLen [hSc 1])) (hV (eC (.int 1))))) (hSc 7))))) (hV (eC (.str [58])))])) sNil) <|
    sSeq (sIf (bAnd (bVal (eV 2)) (b2 fEq (hV (eFz (eCall f__law_take [.io 0, .v (eC (.int 5))]))) (hV (eC (.int 0))))) (sExpr (eMut 6 mAppend [eC (.str [])])) sNil) <|
    sIf (b2 cLt (hSc 7) (hV (eCB fLen [hSc 1]))) (sSeq (sSetV 8 (e2 fIdx (hSc 1) (hSc 7))) <|
    sSeq (sIf (b2 cIn (hV (e2 fIdx (hSc 8) (hV (eC (.int 0))))) (hV (eTup [eC (.str [106, 117, 109, 112]), eC (.str [122, 101, 114, 111])]))) (sSetV 8 (e2 fAdd (hV (eCut (hSc 8) oN (oS (e1 fNeg (hV (eC (.int 1))))))) (hV (eTup [e2 fIdx (hSc 5) (hV (e2 fIdx (hSc 8) (hV (e1 fNeg (hV (eC (.int 1)))))))])))) sNil) <|
    sExpr (eMut 6 mAppend [eBM .str mJoin (hV (eC (.str [32]))) [hV (eFz (tComp [9] (gNm 9) (iTupD (eV 8)) bTrue (eCB fStr [hSc 9])))]])) sNil))) <|
    sRetV (eBM .str mJoin (hV (eC (.str [10]))) [hSc 6])
def f__law_sheet : Fn := fnOf 10 3 [true, false, false] B__law_sheet
abbrev s__law_many : Stmt := topS 41
theorem sc__law_many : FnScope ["_law_state"] ["_law_state"] (defScope s__law_many) := ⟨rfl, rfl, rfl, by decide +kernel, rfl, by decide +kernel, by decide +kernel⟩
def B__law_many : SM :=
  sSeq (sIf (b2 fEq (hV (eFz (eCall f__law_take [.io 0, .v (eC (.int 8))]))) (hV (eC (.int 0)))) (sRetV (e2 fAdd (hV (eC (.int 13))) (hV (eFz (eCall f__law_take [.io 0, .v (eC (.int 28))]))))) sNil) <|
    sRet (eCall f__law_take [.io 0, .v (eC (.int 13))])
def f__law_many : Fn := fnOf 1 1 [true] B__law_many
abbrev s__law_is_figures : Stmt := topS 33
theorem sc__law_is_figures : FnScope ["_law_word_here", "_law_sign"] ["_law_word_here"] (defScope s__law_is_figures) := ⟨rfl, rfl, rfl, by decide +kernel, rfl, by decide +kernel, by decide +kernel⟩
def B__law_is_figures : SM :=
  sSeq (sIf (bOr (bNot (bChain cLe cLe (hV (eC (.int 1))) (hV (eCB fLen [hSc 0])) (hV (eC (.int 3))))) (bNot (bVal (eCB fAll [hV (eFz (tComp [1] (gNm 1) (iStrD (eV 0)) bTrue (e2 (blOf cIn) (hSc 1) (hV (eC (.str [48, 49, 50, 51, 52, 53, 54, 55, 56, 57]))))))])))) (sRetV (eC (.bl false))) sNil) <|
    sRetV (eAnd (eOr (e2 (blOf fEq) (hSc 0) (hV (eC (.str [48])))) (e2 (blOf fNe) (hV (e2 fIdx (hSc 0) (hV (eC (.int 0))))) (hV (eC (.str [48]))))) (e2 (blOf cLt) (hV (eCB fIntS [hSc 0])) (hV (eC (.int 256)))))
def f__law_is_figures : Fn := fnOf 2 1 [false] B__law_is_figures
abbrev s__law_is_name : Stmt := topS 32
theorem sc__law_is_name : FnScope ["_law_word_here", "_law_sign"] ["_law_word_here"] (defScope s__law_is_name) := ⟨rfl, rfl, rfl, by decide +kernel, rfl, by decide +kernel, by decide +kernel⟩
def B__law_is_name : SM :=
  sRetV (eAnd (eChain cLe cLe (hV (eC (.int 1))) (hV (eCB fLen [hSc 0])) (hV (eC (.int 8)))) (eCB fAll [hV (eFz (tComp [1] (gNm 1) (iStrD (eV 0)) bTrue (e2 (blOf cIn) (hSc 1) (hV (eC (.str [97, 98, 99, 100, 101, 102, 103, 104, 105, 106, 107, 108, 109, 110, 111, 112, 113, 114, 115, 116, 117, 118, 119, 120, 121, 122]))))))]))
def f__law_is_name : Fn := fnOf 2 1 [false] B__law_is_name
abbrev s__law_row_told : Stmt := topS 34
theorem sc__law_row_told : FnScope ["_law_words", "_law_fine"] ["_law_words"] (defScope s__law_row_told) := ⟨rfl, rfl, rfl, by decide +kernel, rfl, by decide +kernel, by decide +kernel⟩
def B__law_row_told : SM :=
  sSeq (sIf (b2 fEq (hV (eCB fLen [hSc 0])) (hV (eC (.int 1)))) (sSeq (sIf (b2 fEq (hV (e2 fIdx (hSc 0) (hV (eC (.int 0))))) (hV (eC (.str [115, 116, 111, 112])))) (sRetV (eTup [eC (.str [114, 111, 119]), eTup [eC (.str [115, 116, 111, 112])]])) sNil) <|
    sRetV (eIf (bAnd (b2 fEq (hV (eCut (hV (e2 fIdx (hSc 0) (hV (eC (.int 0))))) (oS (e1 fNeg (hV (eC (.int 1))))) oN)) (hV (eC (.str [58])))) (bVal (eFz (eCall f__law_is_name [.v (eCut (hV (e2 fIdx (hSc 0) (hV (eC (.int 0))))) oN (oS (e1 fNeg (hV (eC (.int 1))))))])))) (eTup [eC (.str [108, 97, 98, 101, 108]), eCut (hV (e2 fIdx (hSc 0) (hV (eC (.int 0))))) oN (oS (e1 fNeg (hV (eC (.int 1)))))]) (eC .non))) sNil) <|
    sSeq (sIf (b2 fEq (hV (e2 fIdx (hSc 0) (hV (eC (.int 0))))) (hV (eC (.str [106, 117, 109, 112])))) (sRetV (eIf (bAnd (b2 fEq (hV (eCB fLen [hSc 0])) (hV (eC (.int 2)))) (bVal (eFz (eCall f__law_is_name [.v (e2 fIdx (hSc 0) (hV (eC (.int 1))))])))) (eTup [eC (.str [114, 111, 119]), eTup [eC (.str [106, 117, 109, 112]), e2 fIdx (hSc 0) (hV (eC (.int 1)))]]) (eC .non))) sNil) <|
    sSeq (sIf (bOr (b2 cNotIn (hV (e2 fIdx (hSc 0) (hV (eC (.int 1))))) (hV (eTup [eC (.str [97]), eC (.str [98]), eC (.str [99]), eC (.str [100])]))) (b2 cGt (hV (eCB fLen [hSc 0])) (hV (eC (.int 3))))) (sRetV (eC .non)) sNil) <|
    sSeq (sIf (b2 fEq (hV (eCB fLen [hSc 0])) (hV (eC (.int 2)))) (sRetV (eIf (b2 cIn (hV (e2 fIdx (hSc 0) (hV (eC (.int 0))))) (hV (eTup [eC (.str [116, 101, 108, 108]), eC (.str [97, 115, 107])]))) (eTup [eC (.str [114, 111, 119]), eCB fTuple [hSc 0]]) (eC .non))) sNil) <|
    sSeq (sSet 1 (tDsp [.inr [115, 101, 116], .inr [122, 101, 114, 111]] [eFz (eCall f__law_is_figures [.v (e2 fIdx (hSc 0) (hV (eC (.int 2))))]), eFz (eCall f__law_is_name [.v (e2 fIdx (hSc 0) (hV (eC (.int 2))))])])) <|
    sSeq (sAsg (gDx 1 (eC (.str [97, 100, 100]))) (e2 (blOf cIn) (hV (e2 fIdx (hSc 0) (hV (eC (.int 2))))) (hV (eTup [eC (.str [97]), eC (.str [98]), eC (.str [99]), eC (.str [100])])))) <|
    sSeq (sAsg (gDx 1 (eC (.str [116, 97, 107, 101]))) (e2 fIdx (hSc 1) (hV (eC (.str [97, 100, 100]))))) <|
    sSeq (sIf (bNot (bVal (eBM .dct mGet (hSc 1) [hV (e2 fIdx (hSc 0) (hV (eC (.int 0)))), hV (eC (.bl false))]))) (sRetV (eC .non)) sNil) <|
    sRetV (eTup [eC (.str [114, 111, 119]), eTup [e2 fIdx (hSc 0) (hV (eC (.int 0))), e2 fIdx (hSc 0) (hV (eC (.int 1))), eIf (b2 fEq (hV (e2 fIdx (hSc 0) (hV (eC (.int 0))))) (hV (eC (.str [115, 101, 116])))) (eCB fIntS [hV (e2 fIdx (hSc 0) (hV (eC (.int 2))))]) (e2 fIdx (hSc 0) (hV (eC (.int 2))))]])
def f__law_row_told : Fn := fnOf 2 1 [false] B__law_row_told
abbrev s__law_read : Stmt := topS 35
theorem sc__law_read : FnScope ["_law_text", "_law_told", "_law_known", "_law_rows", "_law_places", "_law_number", "_law_one", "_law_found", "_law_row"] ["_law_text"] (defScope s__law_read) := ⟨rfl, rfl, rfl, by decide +kernel, rfl, by decide +kernel, by decide +kernel⟩
def B__law_read : SM :=
  sSeq (sSet 1 (tComp [8] (gNm 8) (iSeq (eFz (tBML .str mSplit (hSc 0) [hV (eC (.str [10]))]))) bTrue (eIf (b2 fNe (hSc 8) (hV (eC (.str [])))) (eFz (eCall f__law_row_told [.v (eFz (tBML .str mSplit (hSc 8) [hV (eC (.str [32]))]))])) (eTup [eC (.str [110, 111, 110, 101]), eC (.str [])])))) <|
    sSeq (sSet 2 (tComp [6] (gNm 6) (iSeq (eFv 1)) (bAnd (b2 cNotN (hSc 6) (hV (eC .non))) (b2 fEq (hV (e2 fIdx (hSc 6) (hV (eC (.int 0))))) (hV (eC (.str [108, 97, 98, 101, 108]))))) (e2 fIdx (hSc 6) (hV (eC (.int 1)))))) <|
    sSeq (sPar 3 (tLst []) 4 tD0) <|
    sSeq (sFor (gTp [gNm 5, gNm 6]) (iArg enu1 [eFv 1]) (sWipe [5, 6] (sSeq (sIf (bOr (b2 cIsN (hSc 6) (hV (eC .non))) (bOr (bAnd (b2 fEq (hV (e2 fIdx (hSc 6) (hV (eC (.int 0))))) (hV (eC (.str [108, 97, 98, 101, 108])))) (b2 cIn (hV (e2 fIdx (hSc 6) (hV (eC (.int 1))))) (hSc 4))) (bAnd (b2 fEq (hV (e2 fIdx (hSc 6) (hV (eC (.int 0))))) (hV (eC (.str [114, 111, 119])))) (b2 fEq (hV (eCB fLen [hSc 3])) (hV (eC (.int 200))))))) (sRetV (eTup [eV 5, eC .non])) sNil) <|
    sIf (b2 fEq (hV (e2 fIdx (hSc 6) (hV (eC (.int 0))))) (hV (eC (.str [114, 111, 119])))) (sSeq (sIf (bAnd (b2 cIn (hV (e2 fIdx (hV (e2 fIdx (hSc 6) (hV (eC (.int 1))))) (hV (eC (.int 0))))) (hV (eTup [eC (.str [106, 117, 109, 112]), eC (.str [122, 101, 114, 111])]))) (b2 cNotIn (hV (e2 fIdx (hV (e2 fIdx (hSc 6) (hV (eC (.int 1))))) (hV (e1 fNeg (hV (eC (.int 1))))))) (hSc 2))) (sRetV (eTup [eV 5, eC .non])) sNil) <|
    sExpr (eMut 3 mAppend [e2 fIdx (hSc 6) (hV (eC (.int 1)))])) (sIf (b2 fEq (hV (e2 fIdx (hSc 6) (hV (eC (.int 0))))) (hV (eC (.str [108, 97, 98, 101, 108])))) (sAsg (gDx 4 (e2 fIdx (hSc 6) (hV (eC (.int 1))))) (eCB fLen [hSc 3])) sNil)))) <|
    sSeq (sSet 7 (tLst [])) <|
    sSeq (sFor (gNm 8) (iSeq (eFv 3)) (sWipe [8] (sExpr (eMut 7 mAppend [eIf (b2 cIn (hV (e2 fIdx (hSc 8) (hV (eC (.int 0))))) (hV (eTup [eC (.str [106, 117, 109, 112]), eC (.str [122, 101, 114, 111])]))) (e2 fAdd (hV (eCut (hSc 8) oN (oS (e1 fNeg (hV (eC (.int 1))))))) (hV (eTup [e2 fIdx (hSc 4) (hV (e2 fIdx (hSc 8) (hV (e1 fNeg (hV (eC (.int 1)))))))]))) (eV 8)])))) <|
    sRetV (eTup [eC .non, eFv 7])
def f__law_read : Fn := fnOf 9 1 [false] B__law_read
abbrev s__law_same : Stmt := topS 42
theorem sc__law_same : FnScope ["_law_found", "_law_due", "_law_one", "_law_other"] ["_law_found", "_law_due"] (defScope s__law_same) := ⟨rfl, rfl, rfl, by decide +kernel, rfl, by decide +kernel, by decide +kernel⟩
def B__law_same (rec_ : Fn) : SM :=
  sSeq (sIf (bVal (eIsi [.list, .tuple] (hSc 1))) (sSeq (sIf (bOr (b2 fNe (hV (eIsi [.list] (hSc 0))) (hV (eIsi [.list] (hSc 1)))) (b2 fNe (hV (eIsi [.tuple] (hSc 0))) (hV (eIsi [.tuple] (hSc 1))))) (sRetV (eC (.bl false))) sNil) <|
    sRetV (eAnd (e2 (blOf fEq) (hV (eCB fLen [hSc 0])) (hV (eCB fLen [hSc 1]))) (eCB fAll [hV (eFz (tComp [2, 3] (gTp [gNm 2, gNm 3]) (iArg zip2A [eV 0, eV 1]) bTrue (eFz (eCall rec_ [.v (eV 2), .v (eV 3)]))))]))) sNil) <|
    sSeq (sIf (bAnd (bVal (eIsi [.int] (hSc 1))) (bNot (bVal (eIsi [.bool] (hSc 1))))) (sRetV (eAnd (eIsi [.int] (hSc 0)) (eAnd (eNot (eIsi [.bool] (hSc 0))) (e2 (blOf fEq) (hSc 0) (hSc 1))))) sNil) <|
    sSeq (sIf (bVal (eIsi [.str] (hSc 1))) (sRetV (eAnd (eIsi [.str] (hSc 0)) (e2 (blOf fEq) (hSc 0) (hSc 1)))) sNil) <|
    sSeq (sIf (b2 cIsN (hSc 1) (hV (eC .non))) (sRetV (e2 (blOf cIsN) (hSc 0) (hV (eC .non)))) sNil) <|
    sRetV (eAnd (eIsi [.bool] (hSc 0)) (e2 (blOf fEq) (hSc 0) (hSc 1)))
def r__law_same : Nat → Fn
  | 0 => fun _ => .fail
  | n + 1 => fnOf 4 2 [false, false] (B__law_same (r__law_same n))
def f__law_same : Fn := r__law_same 70
abbrev s_Reading____init__ : Stmt := inClass (topS 25) 0
theorem sc_Reading____init__ : FnScope ["self", "known"] ["self", "known"] (defScope s_Reading____init__) := ⟨rfl, rfl, rfl, by decide +kernel, rfl, by decide +kernel, by decide +kernel⟩
def B_Reading____init__ : SM :=
  sSeq (sFldI [82, 101, 97, 100, 105, 110, 103] 0 [107, 110, 111, 119, 110] (eV 1)) <|
    sSeq (sFldIO [82, 101, 97, 100, 105, 110, 103] 0 [114, 111, 119, 115] (tLst [])) <|
    sFldIO [82, 101, 97, 100, 105, 110, 103] 0 [112, 108, 97, 99, 101, 115] tD0
def f_Reading____init__ : Fn := fnOf 2 2 [true, false] B_Reading____init__
abbrev s_Reading__program : Stmt := inClass (topS 25) 2
theorem sc_Reading__program : FnScope ["self", "row"] ["self"] (defScope s_Reading__program) := ⟨rfl, rfl, rfl, by decide +kernel, rfl, by decide +kernel, by decide +kernel⟩
def B_Reading__program : SM :=
  sRet (tLend3 (tComp [1] (gNm 1) (iSeq (e1 (fFldO [82, 101, 97, 100, 105, 110, 103] [114, 111, 119, 115]) (hSc 0))) bTrue (eIf (b2 cIn (hV (e2 fIdx (hSc 1) (hV (eC (.int 0))))) (hV (eC (.tup [.str [106, 117, 109, 112], .str [122, 101, 114, 111]])))) (e2 fAdd (hV (eCut (hSc 1) oN (oS (e1 fNeg (hV (eC (.int 1))))))) (hV (eTup [e2 fIdx (hV (e1 (fFldO [82, 101, 97, 100, 105, 110, 103] [112, 108, 97, 99, 101, 115]) (hSc 0))) (hV (e2 fIdx (hSc 1) (hV (e1 fNeg (hV (eC (.int 1)))))))]))) (eV 1))))
def f_Reading__program : Fn := fnOf 2 1 [true] B_Reading__program
abbrev s_is_name : Stmt := topS 13
theorem sc_is_name : FnScope ["thing"] ["thing"] (defScope s_is_name) := ⟨rfl, rfl, rfl, by decide +kernel, rfl, by decide +kernel, by decide +kernel⟩
def B_is_name : SM :=
  sRetV (eAnd (eIsi [.str] (hSc 0)) (eAnd (eChain cLe cLe (hV (eC (.int 1))) (hV (eCB fLen [hSc 0])) (hV (eC (.int 8)))) (e2 (blOf fEq) (hV (eBM .str mStrip (hSc 0) [hV (eC (.str [97, 98, 99, 100, 101, 102, 103, 104, 105, 106, 107, 108, 109, 110, 111, 112, 113, 114, 115, 116, 117, 118, 119, 120, 121, 122]))])) (hV (eC (.str []))))))
def f_is_name : Fn := fnOf 1 1 [false] B_is_name
abbrev s_label_in : Stmt := topS 21
theorem sc_label_in : FnScope ["words"] ["words"] (defScope s_label_in) := ⟨rfl, rfl, rfl, by decide +kernel, rfl, by decide +kernel, by decide +kernel⟩
def B_label_in : SM :=
  sSeq (sIf (bAnd (b2 fEq (hV (eCB fLen [hSc 0])) (hV (eC (.int 1)))) (bAnd (bVal (eBM .str mEw (hV (e2 fIdx (hSc 0) (hV (eC (.int 0))))) [hV (eC (.str [58]))])) (bVal (eFz (eCall f_is_name [.v (eCut (hV (e2 fIdx (hSc 0) (hV (eC (.int 0))))) oN (oS (e1 fNeg (hV (eC (.int 1))))))]))))) (sRetV (eCut (hV (e2 fIdx (hSc 0) (hV (eC (.int 0))))) oN (oS (e1 fNeg (hV (eC (.int 1))))))) sNil) <|
    sRetV (eC .non)
def f_label_in : Fn := fnOf 1 1 [false] B_label_in
abbrev s_labels_in : Stmt := topS 24
theorem sc_labels_in : FnScope ["text", "found", "row", "name"] ["text"] (defScope s_labels_in) := ⟨rfl, rfl, rfl, by decide +kernel, rfl, by decide +kernel, by decide +kernel⟩
def B_labels_in : SM :=
  sSeq (sSet 1 tD0) <|
    sSeq (sFor (gNm 2) (iSeq (eFz (tBML .str mSplit (hSc 0) [hV (eC (.str [10]))]))) (sWipe [2, 3] (sSeq (sSetV 3 (eFz (eCall f_label_in [.v (eFz (tBML .str mSplit (hSc 2) [hV (eC (.str [32]))]))]))) <|
    sIf (b2 cNotN (hSc 3) (hV (eC .non))) (sAsg (gDx 1 (eV 3)) (eC (.bl true))) sNil))) <|
    sRet (tMv 1)
def f_labels_in : Fn := fnOf 4 1 [false] B_labels_in
abbrev s_is_number_told : Stmt := topS 20
theorem sc_is_number_told : FnScope ["word"] ["word"] (defScope s_is_number_told) := ⟨rfl, rfl, rfl, by decide +kernel, rfl, by decide +kernel, by decide +kernel⟩
def B_is_number_told : SM :=
  sSeq (sIf (bOr (bNot (bChain cLe cLe (hV (eC (.int 1))) (hV (eCB fLen [hSc 0])) (hV (eC (.int 3))))) (b2 fNe (hV (eBM .str mStrip (hSc 0) [hV (eC (.str [48, 49, 50, 51, 52, 53, 54, 55, 56, 57]))])) (hV (eC (.str []))))) (sRetV (eC (.bl false))) sNil) <|
    sRetV (eAnd (eOr (e2 (blOf fEq) (hSc 0) (hV (eC (.str [48])))) (eNot (eBM .str mSw (hSc 0) [hV (eC (.str [48]))]))) (e2 (blOf cLe) (hV (eCB fIntS [hSc 0])) (hV (eC (.int 255)))))
def f_is_number_told : Fn := fnOf 1 1 [false] B_is_number_told
abbrev s_row_with_spot : Stmt := topS 22
theorem sc_row_with_spot : FnScope ["words", "word", "spot"] ["words"] (defScope s_row_with_spot) := ⟨rfl, rfl, rfl, by decide +kernel, rfl, by decide +kernel, by decide +kernel⟩
def B_row_with_spot : SM :=
  sSeq (sPar 1 (tSh (e2 fIdx (hSc 0) (hV (eC (.int 0))))) 2 (tSh (e2 fIdx (hSc 0) (hV (eC (.int 1)))))) <|
    sSeq (sIf (b2 cNotIn (hSc 2) (hV (eC (.tup [.str [97], .str [98], .str [99], .str [100]])))) (sRetV (eC .non)) sNil) <|
    sSeq (sIf (bAnd (b2 fEq (hV (eCB fLen [hSc 0])) (hV (eC (.int 2)))) (b2 cIn (hSc 1) (hV (eTup [eC (.str [116, 101, 108, 108]), eC (.str [97, 115, 107])])))) (sRetV (eTup [eV 1, eV 2])) sNil) <|
    sSeq (sIf (bAnd (b2 fEq (hV (eCB fLen [hSc 0])) (hV (eC (.int 3)))) (bAnd (b2 fEq (hSc 1) (hV (eC (.str [115, 101, 116])))) (bVal (eFz (eCall f_is_number_told [.v (e2 fIdx (hSc 0) (hV (eC (.int 2))))]))))) (sRetV (eTup [eV 1, eV 2, eCB fIntS [hV (e2 fIdx (hSc 0) (hV (eC (.int 2))))]])) sNil) <|
    sSeq (sIf (bAnd (b2 fEq (hV (eCB fLen [hSc 0])) (hV (eC (.int 3)))) (bAnd (b2 cIn (hSc 1) (hV (eTup [eC (.str [97, 100, 100]), eC (.str [116, 97, 107, 101])]))) (b2 cIn (hV (e2 fIdx (hSc 0) (hV (eC (.int 2))))) (hV (eC (.tup [.str [97], .str [98], .str [99], .str [100]])))))) (sRetV (eTup [eV 1, eV 2, e2 fIdx (hSc 0) (hV (eC (.int 2)))])) sNil) <|
    sSeq (sIf (bAnd (b2 fEq (hV (eCB fLen [hSc 0])) (hV (eC (.int 3)))) (bAnd (b2 fEq (hSc 1) (hV (eC (.str [122, 101, 114, 111])))) (bVal (eFz (eCall f_is_name [.v (e2 fIdx (hSc 0) (hV (eC (.int 2))))]))))) (sRetV (eTup [eV 1, eV 2, e2 fIdx (hSc 0) (hV (eC (.int 2)))])) sNil) <|
    sRetV (eC .non)
def f_row_with_spot : Fn := fnOf 3 1 [false] B_row_with_spot
abbrev s_row_of : Stmt := topS 23
theorem sc_row_of : FnScope ["words"] ["words"] (defScope s_row_of) := ⟨rfl, rfl, rfl, by decide +kernel, rfl, by decide +kernel, by decide +kernel⟩
def B_row_of : SM :=
  sSeq (sIf (b2 fEq (hSc 0) (hV (eFz (tLst [eC (.str [115, 116, 111, 112])])))) (sRetV (eTup [eC (.str [115, 116, 111, 112])])) sNil) <|
    sSeq (sIf (b2 cLt (hV (eCB fLen [hSc 0])) (hV (eC (.int 2)))) (sRetV (eC .non)) sNil) <|
    sSeq (sIf (b2 fEq (hV (e2 fIdx (hSc 0) (hV (eC (.int 0))))) (hV (eC (.str [106, 117, 109, 112])))) (sRetV (eIf (bAnd (b2 fEq (hV (eCB fLen [hSc 0])) (hV (eC (.int 2)))) (bVal (eFz (eCall f_is_name [.v (e2 fIdx (hSc 0) (hV (eC (.int 1))))])))) (eTup [eC (.str [106, 117, 109, 112]), e2 fIdx (hSc 0) (hV (eC (.int 1)))]) (eC .non))) sNil) <|
    sRet (eCall f_row_with_spot [.v (eV 0)])
def f_row_of : Fn := fnOf 1 1 [false] B_row_of
abbrev s_Reading__take_row : Stmt := inClass (topS 25) 1
theorem sc_Reading__take_row : FnScope ["self", "words", "name", "row"] ["self", "words"] (defScope s_Reading__take_row) := ⟨rfl, rfl, rfl, by decide +kernel, rfl, by decide +kernel, by decide +kernel⟩
def B_Reading__take_row : SM :=
  sSeq (sSetV 2 (eFz (eCall f_label_in [.v (eV 1)]))) <|
    sSeq (sIf (b2 cNotN (hSc 2) (hV (eC .non))) (sSeq (sIf (bLend3 (b2 cIn (hSc 2) (hV (e1 (fFldO [82, 101, 97, 100, 105, 110, 103] [112, 108, 97, 99, 101, 115]) (hSc 0))))) (sRetV (eC (.bl false))) sNil) <|
    sSeq (sAsg (gDxF [82, 101, 97, 100, 105, 110, 103] 0 [112, 108, 97, 99, 101, 115] (eV 2)) (eLend3 (eCB fLen [hV (e1 (fFldO [82, 101, 97, 100, 105, 110, 103] [114, 111, 119, 115]) (hSc 0))]))) <|
    sRetV (eC (.bl true))) sNil) <|
    sSeq (sSetV 3 (eFz (eCall f_row_of [.v (eV 1)]))) <|
    sSeq (sIf (bLend3 (bOr (b2 cIsN (hSc 3) (hV (eC .non))) (b2 fEq (hV (eCB fLen [hV (e1 (fFldO [82, 101, 97, 100, 105, 110, 103] [114, 111, 119, 115]) (hSc 0))])) (hV (eC (.int 200)))))) (sRetV (eC (.bl false))) sNil) <|
    sSeq (sIf (bAnd (b2 cIn (hV (e2 fIdx (hSc 3) (hV (eC (.int 0))))) (hV (eC (.tup [.str [106, 117, 109, 112], .str [122, 101, 114, 111]])))) (b2 cNotIn (hV (e2 fIdx (hSc 3) (hV (e1 fNeg (hV (eC (.int 1))))))) (hV (eFldI [82, 101, 97, 100, 105, 110, 103] 0 [107, 110, 111, 119, 110])))) (sRetV (eC (.bl false))) sNil) <|
    sSeq (sExpr (eMutF [82, 101, 97, 100, 105, 110, 103] 0 [114, 111, 119, 115] mAppend [eV 3])) <|
    sRetV (eC (.bl true))
def f_Reading__take_row : Fn := fnOf 4 2 [true, false] B_Reading__take_row
abbrev s_read_program : Stmt := topS 26
theorem sc_read_program : FnScope ["text", "reading", "number", "row"] ["text"] (defScope s_read_program) := ⟨rfl, rfl, rfl, by decide +kernel, rfl, by decide +kernel, by decide +kernel⟩
def B_read_program : SM :=
  sSeq (sSet 1 (eNew [82, 101, 97, 100, 105, 110, 103] f_Reading____init__ [eFz (eCall f_labels_in [.v (eV 0)])])) <|
    sSeq (sFor (gTp [gNm 2, gNm 3]) (iArg enu1 [eFz (tBML .str mSplit (hSc 0) [hV (eC (.str [10]))])]) (sWipe [2, 3] (sIf (bAnd (b2 fNe (hSc 3) (hV (eC (.str [])))) (bNot (bVal (eFz (eCallM [82, 101, 97, 100, 105, 110, 103] [116, 97, 107, 101, 95, 114, 111, 119] f_Reading__take_row 1 [.v (eFz (tBML .str mSplit (hSc 3) [hV (eC (.str [32]))]))]))))) (sRaise1 [66, 97, 100, 82, 111, 119] [114, 111, 119] (eV 2)) sNil))) <|
    sRet (eCallM [82, 101, 97, 100, 105, 110, 103] [112, 114, 111, 103, 114, 97, 109] f_Reading__program 1 [])
def f_read_program : Fn := fnOf 4 1 [false] B_read_program
abbrev s__law_signs : Stmt := topS 37
theorem sc__law_signs : FnScope [] [] (defScope s__law_signs) := ⟨rfl, rfl, rfl, by decide +kernel, rfl, by decide +kernel, by decide +kernel⟩
def B__law_signs : SM :=
  sRetV (eC (.str [32, 33, 34, 35, 36, 38, 39, 40, 41, 42, 43, 44, 45, 46, 47, 48, 49, 50, 51, 52, 53, 54, 55, 56, 57, 58, 59, 60, 61, 62, 63, 64, 65, 66, 67, 68, 69, 70, 71, 72, 73, 74, 75, 76, 77, 78, 79, 80, 81, 82, 83, 84, 85, 86, 87, 88, 89, 90, 91, 92, 93, 94, 95, 96, 97, 98, 99, 100, 101, 102, 103, 104, 105, 106, 107, 108, 109, 110, 111, 112, 113, 114, 115, 116, 117, 118, 119, 120, 121, 122, 123, 124, 125, 126, 10]))
def f__law_signs : Fn := fnOf 0 0 [] B__law_signs
abbrev s__law_spelt : Stmt := topS 38
theorem sc__law_spelt : FnScope ["_law_state", "_law_text", "_law_way", "_law_near", "_law_signs_here", "_law_sign", "_law_at", "_law_ahead", "_law_here", "_law_behind", "_law_some"] ["_law_state", "_law_text"] (defScope s__law_spelt) := ⟨rfl, rfl, rfl, by decide +kernel, rfl, by decide +kernel, by decide +kernel⟩
def B__law_spelt : SM :=
  sSeq (sPar 2 (tSh (eFz (eCall f__law_take [.io 0, .v (eC (.int 8))]))) 3 (tSh (eFz (eCall f__law_take [.io 0, .v (eC (.int 2))])))) <|
    sSeq (sSetV 4 (e2 fIdx (hV (eFz (tLst [eFz (eCall f__law_signs []), eC (.str [48, 49, 50, 51, 52, 53, 54, 55, 56, 57, 58, 32, 10, 97, 98, 99, 100, 122])]))) (hSc 3))) <|
    sSeq (sSetV 5 (e2 fIdx (hSc 4) (hV (eFz (eCall f__law_take [.io 0, .v (eCB fLen [hSc 4])]))))) <|
    sSeq (sSetV 6 (eFz (eCall f__law_take [.io 0, .v (e2 fAdd (hV (eCB fLen [hSc 1])) (hV (eC (.int 1))))]))) <|
    sSeq (sPar 7 (tSh (eCut (hSc 1) oN (oS (eV 6)))) 8 (tSh (eCut (hSc 1) (oS (eV 6)) (oS (e2 fAdd (hSc 6) (hV (eC (.int 1)))))))) <|
    sSeq (sSetV 9 (eCut (hSc 1) (oS (e2 fAdd (hSc 6) (hV (eC (.int 1))))) oN)) <|
    sSeq (sSet 10 (tLst [e2 fAdd (hV (e2 fAdd (hV (e2 fAdd (hSc 7) (hSc 5))) (hSc 8))) (hSc 9), e2 fAdd (hV (e2 fAdd (hSc 7) (hSc 5))) (hSc 9), e2 fAdd (hSc 7) (hSc 9), e2 fAdd (hV (e2 fAdd (hV (e2 fAdd (hSc 7) (hSc 8))) (hSc 8))) (hSc 9)])) <|
    sSeq (sExpr (eMut 10 mAppend [e2 fAdd (hV (e2 fAdd (hV (e2 fAdd (hSc 7) (hV (eCut (hSc 9) oN (oS (eC (.int 1))))))) (hSc 8))) (hV (eCut (hSc 9) (oS (eC (.int 1))) oN))])) <|
    sSeq (sSet 10 (t2 lAdd (hSc 10) (hV (eFz (tLst [eV 7, e2 fAdd (hSc 8) (hSc 9), e2 fAdd (hV (e2 fAdd (hV (e2 fAdd (hSc 7) (hV (e2 fRepS (hSc 5) (hV (eC (.int 9))))))) (hSc 8))) (hSc 9)]))))) <|
    sRetV (e2 fIdx (hSc 10) (hSc 2))
def f__law_spelt : Fn := fnOf 11 2 [true, false] B__law_spelt
abbrev s__law_line_spelt : Stmt := topS 39
theorem sc__law_line_spelt : FnScope ["_law_state", "_law_text", "_law_way", "_law_odd", "_law_row", "_law_rows", "_law_at", "_law_ahead", "_law_here", "_law_behind", "_law_some"] ["_law_state", "_law_text"] (defScope s__law_line_spelt) := ⟨rfl, rfl, rfl, by decide +kernel, rfl, by decide +kernel, by decide +kernel⟩
def B__law_line_spelt : SM :=
  sSeq (sSetV 2 (eFz (eCall f__law_take [.io 0, .v (eC (.int 6))]))) <|
    sSeq (sSetV 3 (eFz (tLst [eC (.str [106, 117, 109, 112, 32, 110, 111, 119, 104, 101, 114, 101]), eC (.str [122, 101, 114, 111, 32, 97, 32, 98]), eC (.str [97, 58]), eC (.str [98, 58]), eC (.str [115, 101, 116, 32, 97, 32, 50, 53, 54]), eC (.str [116, 101, 108, 108, 32, 101]), eC (.str [115, 116, 111, 112, 32, 49]), eC (.str [115, 101, 116, 32, 98, 32, 48, 55]), eC (.str [106, 117, 109, 112, 32, 97]), eC (.str [])]))) <|
    sSeq (sSetV 4 (e2 fIdx (hSc 3) (hV (eFz (eCall f__law_take [.io 0, .v (eC (.int 10))]))))) <|
    sSeq (sSetV 5 (eFz (tBML .str mSplit (hSc 1) [hV (eC (.str [10]))]))) <|
    sSeq (sSetV 6 (eFz (eCall f__law_take [.io 0, .v (eCB fLen [hSc 5])]))) <|
    sSeq (sParN [(7, tSh (eFz (tCut (hSc 5) oN (oS (eV 6))))), (8, tSh (eFz (tCut (hSc 5) (oS (eV 6)) (oS (e2 fAdd (hSc 6) (hV (eC (.int 1)))))))), (9, tSh (eFz (tCut (hSc 5) (oS (e2 fAdd (hSc 6) (hV (eC (.int 1))))) oN)))]) <|
    sSeq (sSetV 10 (eFz (tLst [eFz (t2 lAdd (hSc 7) (hSc 9)), eFz (t2 lAdd (hV (eFz (t2 lAdd (hV (eFz (t2 lAdd (hSc 7) (hSc 8)))) (hSc 8)))) (hSc 9)), eFz (t2 lAdd (hV (eFz (t2 lAdd (hV (eFz (t2 lAdd (hSc 7) (hV (eFz (tCut (hSc 9) oN (oS (eC (.int 1))))))))) (hSc 8)))) (hV (eFz (tCut (hSc 9) (oS (eC (.int 1))) oN))))]))) <|
    sSeq (sSetV 10 (eFz (t2 lAdd (hSc 10) (hV (eFz (tLst [eFz (t2 lAdd (hV (eFz (t2 lAdd (hSc 7) (hSc 9)))) (hSc 8)), eFz (t2 lAdd (hV (eFz (t2 lAdd (hV (eFz (t2 lAdd (hSc 7) (hV (eFz (tLst [eV 4])))))) (hSc 8)))) (hSc 9)), eFz (t2 lAdd (hV (eFz (t2 lAdd (hSc 7) (hV (eFz (tLst [eV 4])))))) (hSc 9))])))))) <|
    sRetV (eBM .str mJoin (hV (eC (.str [10]))) [hV (e2 fIdx (hSc 10) (hSc 2))])
def f__law_line_spelt : Fn := fnOf 11 2 [true, false] B__law_line_spelt
abbrev s__law_refused : Stmt := topS 40
theorem sc__law_refused : FnScope ["_law_text", "_law_caught", "_law_told", "error", "_law_others"] ["_law_text"] (defScope s__law_refused) := ⟨rfl, rfl, rfl, by decide +kernel, rfl, by decide +kernel, by decide +kernel⟩
def B__law_refused : SM :=
  sSeq (sSetV 1 (eC .non)) <|
    sSeq (sSetV 2 (eC .non)) <|
    sSeq (sTry rs_ [79, 100, 100, 69, 114, 114, 111, 114] 3 (sSetV 2 (eFz (eCall f_read_program [.v (eV 0)]))) (sSetV 1 (eV 3))) <|
    sSeq (sIf (b2 cIsN (hSc 1) (hV (eC .non))) (sRetV (eTup [eC .non, eV 2])) sNil) <|
    sSeq (sIf (bOr (bNot (bVal (e1 (fIsE rs_ [[66, 97, 100, 82, 111, 119]]) (hSc 1)))) (bNot (bVal (e1 (fIsE rs_ [[86, 97, 108, 117, 101, 69, 114, 114, 111, 114]]) (hSc 1))))) (sRetV (eTup [eC (.str [111, 116, 104, 101, 114]), eC .non])) sNil) <|
    sSeq (sSetV 4 (eFz (tLst [e1 (fIsE rs_ [[78, 111, 78, 97, 109, 101]]) (hSc 1), e1 (fIsE rs_ [[66, 97, 100, 84, 101, 120, 116]]) (hSc 1), e1 (fIsE rs_ [[78, 111, 70, 111, 114, 109]]) (hSc 1)]))) <|
    sSeq (sSetV 4 (eFz (t2 lAdd (hSc 4) (hV (eFz (tLst [e1 (fIsE rs_ [[84, 111, 111, 70, 97, 114]]) (hSc 1), e1 (fIsE rs_ [[78, 111, 84, 97, 114, 103, 101, 116]]) (hSc 1), e1 (fIsE rs_ [[84, 111, 111, 70, 117, 108, 108]]) (hSc 1)])))))) <|
    sRetV (eTup [eIf (bOr (bVal (eCB fAny [hSc 4])) (bVal (e1 (fIsE rs_ [[78, 111, 80, 108, 97, 99, 101]]) (hSc 1)))) (eC (.str [111, 116, 104, 101, 114])) (e1 (fFldE rs_ [114, 111, 119]) (hSc 1)), eC .non])
def f__law_refused : Fn := fnOf 5 1 [false] B__law_refused
abbrev s_law : Stmt := topS 43
theorem sc_law : FnScope ["_law_script", "_law_state", "_law_turn", "_law_empty", "_law_program_here", "_law_text", "_law_some", "_law_more", "_law_ahead", "_law_one", "_law_row", "_law_due"] ["_law_script"] (defScope s_law) := ⟨rfl, rfl, rfl, by decide +kernel, rfl, by decide +kernel, by decide +kernel⟩
def B_law : SM :=
  sSeq (sSet 1 (eCall f__law_begin [.v (eV 0)])) <|
    sSeq (sFor (gNm 2) (iArg rng1 [eC (.int 2)]) (sWipe [2, 3, 4, 5, 6, 7, 8, 9, 10, 11] (sSeq (sSetV 3 (e2 (blOf fEq) (hV (eFz (eCall f__law_take [.io 1, .v (eC (.int 3))]))) (hV (eC (.int 0))))) <|
    sSeq (sSetV 4 (eFz (eCall f__law_program [.io 1, .v (eFz (eCall f__law_many [.io 1]))]))) <|
    sSeq (sSetV 5 (eFz (eCall f__law_sheet [.io 1, .v (eV 4), .v (eV 3)]))) <|
    sSeq (sSet 6 (tLst [eV 5])) <|
    sSeq (sFor (gNm 7) (iArg rng1 [eC (.int 10)]) (sWipe [7, 8] (sSeq (sSetV 8 (e2 fIdx (hV (eFz (tLst [eV 5, e2 fIdx (hSc 6) (hV (e1 fNeg (hV (eC (.int 1)))))]))) (hV (eFz (eCall f__law_take [.io 1, .v (eC (.int 2))]))))) <|
    sExpr (eMut 6 mAppend [eIf (b2 fEq (hV (eFz (eCall f__law_take [.io 1, .v (eC (.int 2))]))) (hV (eC (.int 0)))) (eFz (eCall f__law_spelt [.io 1, .v (eV 8)])) (eFz (eCall f__law_line_spelt [.io 1, .v (eV 8)]))])))) <|
    sSeq (sFor (gNm 9) (iSeq (eFv 6)) (sWipe [9, 10, 11] (sSeq (sAsg (gTp [gNm 10, gNm 11]) (eFz (eCall f__law_read [.v (eV 9)]))) <|
    sIf (bNot (bVal (eFz (eCall f__law_same [.v (eFz (eCall f__law_refused [.v (eV 9)])), .v (eTup [eV 10, eV 11])])))) (sRetV (eC (.bl false))) sNil))) <|
    sIf (bNot (bVal (eFz (eCall f__law_same [.v (eFz (eCall f_read_program [.v (eV 5)])), .v (eV 4)])))) (sRetV (eC (.bl false))) sNil))) <|
    sRetV (eC (.bl true))
def f_law : Fn := fnOf 12 1 [false] B_law
section
variable {P : Program} {w : World} {K : PySem.W.Frag} {mg : Str → Option Value} {base : Heap}
theorem c__law_begin {fa : Addr} {fd : FuncData} (F : Fun K "_law_begin" "_law_begin" s__law_begin fa fd) (hm : mg "_law_begin" = some (.ref fa)) (hb : Binds K fd ["_law_script"] []) (z_list : mg "list" = none)  : Cal P w K mg base 1 "_law_begin" f__law_begin :=
  Cal.mk' F hm hb sc__law_begin (by decide) fun cdv A outer s H E hr =>
    (sds_cons (sd_set (ps_set sc__law_begin.nd rfl (.inl (by kernel_rfl)) (et_cb f_list (pe_callTy call_list_of (gl_ (by kernel_rfl)) z_list (by decide +kernel) (eah_cons (eh_v (ev_fz (et_cut (eh_s rfl (.inl (by kernel_rfl))) eo_n (eo_s ev_int)))) eah_nil)))) (by decide))
    (sds_cons (sd_if (eb_cmp (op_eqA hr.units) f_eq (eh_s rfl (.inl (by kernel_rfl))) (eh_v (ev_fz (et_lst eav_nil))) (nomark _)) (sds_one (sd_set (ps_set sc__law_begin.nd rfl (.inl (by kernel_rfl)) (et_lst (eav_cons ev_int eav_nil))) (by decide))) sds_nil)
    (sds_one (sd_ret (et_rcd2 (by rfl) (by rfl) (et_mv rfl (.inl (by kernel_rfl))) ev_int)))))
theorem c__law_take {fa : Addr} {fd : FuncData} (F : Fun K "_law_take" "_law_take" s__law_take fa fd) (hm : mg "_law_take" = some (.ref fa)) (hb : Binds K fd ["_law_state", "_law_many_here"] []) (z_divmod : mg "divmod" = none) (z_len : mg "len" = none)  : Cal P w K mg base 1 "_law_take" f__law_take :=
  Cal.mk' F hm hb sc__law_take (by decide) fun cdv A outer s H E hr =>
    (sds_cons (sd_setV (ps_set sc__law_take.nd rfl (.inl (by kernel_rfl)) (ev_op op_addA f_add (eh_v (ev_fld (hu1 hr) rfl (.inl (by kernel_rfl)) (by rfl))) (eh_v ev_int))) (by decide))
    (sds_cons (sd_fld (hu1 hr) rfl (.inl (by kernel_rfl)) (by rfl) (ev_var rfl (.inl (by kernel_rfl))))
    (sds_cons (sd_setV (ps_set sc__law_take.nd rfl (.inl (by kernel_rfl)) (ev_op op_mod f_mod (eh_s rfl (.inl (by kernel_rfl))) (eh_v (ev_flen (hu1 hr) (gl_ (by kernel_rfl)) z_len rfl (.inl (by kernel_rfl)) (by rfl))))) (by decide))
    (sds_cons (sd_setV (ps_set sc__law_take.nd rfl (.inl (by kernel_rfl)) (ev_fix (hu1 hr) rfl (.inl (by kernel_rfl)) (by rfl) rfl (.inl (by kernel_rfl)))) (by decide))
    (sds_cons (sd_if (eb_cmp op_ge f_ge (eh_s rfl (.inl (by kernel_rfl))) (eh_v (ev_op op_pow f_pow (eh_v ev_int) (eh_v ev_int))) (nomark _)) (sds_cons (sd_asg (sl := [5]) (ev_cb f_divmod (pe_callB call_divmod (gl_ (by kernel_rfl)) z_divmod (by decide +kernel) (eah_cons (eh_s rfl (.inl (by kernel_rfl))) (eah_cons (eh_s rfl (.inl (by kernel_rfl))) eah_nil)))) (gd_tup rfl (gds_cons (gd_fix (hu1 hr) rfl (.inl (by kernel_rfl)) (by rfl) rfl (.inl (by kernel_rfl))) (gds_cons (gd_name sc__law_take.nd rfl (.inl (by kernel_rfl)) (by decide)) gds_nil)) rfl) (by decide))
    (sds_one (sd_retV (ev_var rfl (.inl (by kernel_rfl)))))) sds_nil)
    (sds_cons (sd_setV (ps_set sc__law_take.nd rfl (.inl (by kernel_rfl)) (ev_op op_mod f_mod (eh_v (ev_op op_mul f_mul (eh_v (ev_op op_addA f_add (eh_v (ev_op op_addA f_add (eh_v (ev_op op_mod f_mod (eh_s rfl (.inl (by kernel_rfl))) (eh_v ev_int))) (eh_v (ev_op op_mul f_mul (eh_v (ev_op op_mul f_mul (eh_s rfl (.inl (by kernel_rfl))) (eh_s rfl (.inl (by kernel_rfl))))) (eh_v ev_int))))) (eh_v ev_int))) (eh_v ev_int))) (eh_v ev_int))) (by decide))
    (sds_cons (sd_setV (ps_set sc__law_take.nd rfl (.inl (by kernel_rfl)) (ev_op op_mod f_mod (eh_v (ev_op op_mul f_mul (eh_s rfl (.inl (by kernel_rfl))) (eh_s rfl (.inl (by kernel_rfl))))) (eh_v ev_int))) (by decide))
    (sds_one (sd_retV (ev_op op_mod f_mod (eh_v (ev_op op_fdiv f_fdiv (eh_v (ev_op op_mod f_mod (eh_v (ev_op op_mul f_mul (eh_v (ev_op op_addA f_add (eh_s rfl (.inl (by kernel_rfl))) (eh_v (ev_op op_mul f_mul (eh_s rfl (.inl (by kernel_rfl))) (eh_v ev_int))))) (eh_v ev_int))) (eh_v ev_int))) (eh_v ev_int))) (eh_s rfl (.inl (by kernel_rfl)))))))))))))
theorem c__law_program {fa : Addr} {fd : FuncData} (F : Fun K "_law_program" "_law_program" s__law_program fa fd) (hm : mg "_law_program" = some (.ref fa)) (hb : Binds K fd ["_law_state", "_law_many_here"] []) (z_max : mg "max" = none) (z_min : mg "min" = none) (z_range : mg "range" = none) (C__law_take : Cal P w K mg base 1 "_law_take" f__law_take) : Cal P w K mg base 2 "_law_program" f__law_program :=
  Cal.mk' F hm hb sc__law_program (by decide) fun cdv A outer s H E hr =>
    (sds_cons (sd_set (ps_set sc__law_program.nd rfl (.inl (by kernel_rfl)) (et_lst eav_nil)) (by decide))
    (sds_cons (sd_for (sl := [3]) (passes_of (K := _) (E₁ := _) rfl) rfl (ei_arg (pi_range1 (gl_ (by kernel_rfl)) z_range (eav_cons (ev_var rfl (.inl (by kernel_rfl))) eav_nil)) ht_rng1) (gd_name sc__law_program.nd rfl (.inl (by kernel_rfl)) (by decide)) (sds_wipe [3, 4, 5, 6, 7] (sds_cons (sd_setV (ps_set sc__law_program.nd rfl (.inl (by kernel_rfl)) (ev_fz (et_call (C__law_take.mono (by decide)) hr (gl_ (by kernel_rfl)) (takes_of rfl rfl rfl rfl) (eaa_io rfl (.inl (by kernel_rfl)) (eaa_v ev_int eaa_nil))))) (by decide))
    (sds_cons (sd_setV (ps_set sc__law_program.nd rfl (.inl (by kernel_rfl)) (ev_ix (ix_A (hu1 hr)) f_idx (eh_v (ev_str (by rfl))) (eh_v (ev_fz (et_call (C__law_take.mono (by decide)) hr (gl_ (by kernel_rfl)) (takes_of rfl rfl rfl rfl) (eaa_io rfl (.inl (by kernel_rfl)) (eaa_v ev_int eaa_nil))))) (fun _ _ => rfl))) (by decide))
    (sds_cons (sd_setV (ps_set sc__law_program.nd rfl (.inl (by kernel_rfl)) (ev_ix (ix_A (hu1 hr)) f_idx (eh_v (ev_str (by rfl))) (eh_v (ev_fz (et_call (C__law_take.mono (by decide)) hr (gl_ (by kernel_rfl)) (takes_of rfl rfl rfl rfl) (eaa_io rfl (.inl (by kernel_rfl)) (eaa_v ev_int eaa_nil))))) (fun _ _ => rfl))) (by decide))
    (sds_cons (sd_setV (ps_set sc__law_program.nd rfl (.inl (by kernel_rfl)) (ev_ix (ix_A (hu1 hr)) f_idx (eh_v (ev_fz (et_lst (eav_cons (ev_fz (et_call (C__law_take.mono (by decide)) hr (gl_ (by kernel_rfl)) (takes_of rfl rfl rfl rfl) (eaa_io rfl (.inl (by kernel_rfl)) (eaa_v (ev_op op_addA f_add (eh_s rfl (.inl (by kernel_rfl))) (eh_v ev_int)) eaa_nil)))) (eav_cons (ev_cb f_min (pe_callB (cr_minA rfl) (gl_ (by kernel_rfl)) z_min (by decide +kernel) (eah_cons (eh_s rfl (.inl (by kernel_rfl))) (eah_cons (eh_v (ev_cb f_max (pe_callB (cr_maxA rfl) (gl_ (by kernel_rfl)) z_max (by decide +kernel) (eah_cons (eh_v ev_int) (eah_cons (eh_v (ev_op op_addA f_add (eh_v (ev_op op_sub f_sub (eh_s rfl (.inl (by kernel_rfl))) (eh_v ev_int))) (eh_v (ev_fz (et_call (C__law_take.mono (by decide)) hr (gl_ (by kernel_rfl)) (takes_of rfl rfl rfl rfl) (eaa_io rfl (.inl (by kernel_rfl)) (eaa_v ev_int eaa_nil))))))) eah_nil))))) eah_nil)))) eav_nil))))) (eh_v (ev_fz (et_call (C__law_take.mono (by decide)) hr (gl_ (by kernel_rfl)) (takes_of rfl rfl rfl rfl) (eaa_io rfl (.inl (by kernel_rfl)) (eaa_v ev_int eaa_nil))))) (fun _ _ => rfl))) (by decide))
    (sds_one (sd_if (eb_cmp op_ltA f_lt (eh_s rfl (.inl (by kernel_rfl))) (eh_v ev_int) (nomark _)) (sds_one (sd_expr (ev_mut m_append (pe_bm PySem.F.plainAttrs_list PySem.F.slot_list_append PySem.F.type_list_append mt_append (pe_var rfl (.inl (by kernel_rfl))) (eav_cons (ev_tup (eav_cons (ev_str (by rfl)) (eav_cons (ev_var rfl (.inl (by kernel_rfl))) (eav_cons (ev_ix (ix_A (hu1 hr)) f_idx (eh_v (ev_fz (et_lst (eav_cons (ev_fz (et_call (C__law_take.mono (by decide)) hr (gl_ (by kernel_rfl)) (takes_of rfl rfl rfl rfl) (eaa_io rfl (.inl (by kernel_rfl)) (eaa_v ev_int eaa_nil)))) (eav_cons (ev_fz (et_call (C__law_take.mono (by decide)) hr (gl_ (by kernel_rfl)) (takes_of rfl rfl rfl rfl) (eaa_io rfl (.inl (by kernel_rfl)) (eaa_v ev_int eaa_nil)))) eav_nil))))) (eh_v (ev_fz (et_call (C__law_take.mono (by decide)) hr (gl_ (by kernel_rfl)) (takes_of rfl rfl rfl rfl) (eaa_io rfl (.inl (by kernel_rfl)) (eaa_v ev_int eaa_nil))))) (fun _ _ => rfl)) eav_nil)))) eav_nil))))) (sds_one (sd_if (eb_cmp op_ltA f_lt (eh_s rfl (.inl (by kernel_rfl))) (eh_v ev_int) (nomark _)) (sds_one (sd_expr (ev_mut m_append (pe_bm PySem.F.plainAttrs_list PySem.F.slot_list_append PySem.F.type_list_append mt_append (pe_var rfl (.inl (by kernel_rfl))) (eav_cons (ev_tup (eav_cons (ev_ix (ix_A (hu1 hr)) f_idx (eh_v (ev_fz (et_lst (eav_cons (ev_str (by rfl)) (eav_cons (ev_str (by rfl)) eav_nil))))) (eh_v (ev_op op_sub f_sub (eh_s rfl (.inl (by kernel_rfl))) (eh_v ev_int))) (fun _ _ => rfl)) (eav_cons (ev_var rfl (.inl (by kernel_rfl))) (eav_cons (ev_var rfl (.inl (by kernel_rfl))) eav_nil)))) eav_nil))))) (sds_one (sd_if (eb_cmp op_ltA f_lt (eh_s rfl (.inl (by kernel_rfl))) (eh_v ev_int) (nomark _)) (sds_one (sd_expr (ev_mut m_append (pe_bm PySem.F.plainAttrs_list PySem.F.slot_list_append PySem.F.type_list_append mt_append (pe_var rfl (.inl (by kernel_rfl))) (eav_cons (ev_tup (eav_cons (ev_ix (ix_A (hu1 hr)) f_idx (eh_v (ev_fz (et_lst (eav_cons (ev_str (by rfl)) (eav_cons (ev_str (by rfl)) (eav_cons (ev_str (by rfl)) eav_nil)))))) (eh_v (ev_op op_sub f_sub (eh_s rfl (.inl (by kernel_rfl))) (eh_v ev_int))) (fun _ _ => rfl)) (eav_cons (ev_var rfl (.inl (by kernel_rfl))) eav_nil))) eav_nil))))) (sds_one (sd_if (eb_w (ew_and (eb_cmp (op_eqA hr.units) f_eq (eh_s rfl (.inl (by kernel_rfl))) (eh_v ev_int) (nomark _)) (ew_and1 (eb_cmp (op_eqA hr.units) f_eq (eh_v (ev_fz (et_call (C__law_take.mono (by decide)) hr (gl_ (by kernel_rfl)) (takes_of rfl rfl rfl rfl) (eaa_io rfl (.inl (by kernel_rfl)) (eaa_v ev_int eaa_nil))))) (eh_v ev_int) (nomark _))))) (sds_one (sd_expr (ev_mut m_append (pe_bm PySem.F.plainAttrs_list PySem.F.slot_list_append PySem.F.type_list_append mt_append (pe_var rfl (.inl (by kernel_rfl))) (eav_cons (ev_tup (eav_cons (ev_str (by rfl)) eav_nil)) eav_nil))))) (sds_one (sd_expr (ev_mut m_append (pe_bm PySem.F.plainAttrs_list PySem.F.slot_list_append PySem.F.type_list_append mt_append (pe_var rfl (.inl (by kernel_rfl))) (eav_cons (ev_if (eb_cmp op_gt f_gt (eh_s rfl (.inl (by kernel_rfl))) (eh_v ev_int) (nomark _)) (ev_tup (eav_cons (ev_str (by rfl)) (eav_cons (ev_var rfl (.inl (by kernel_rfl))) (eav_cons (ev_var rfl (.inl (by kernel_rfl))) eav_nil)))) (ev_tup (eav_cons (ev_str (by rfl)) (eav_cons (ev_var rfl (.inl (by kernel_rfl))) eav_nil)))) eav_nil)))))))))))))))))) (by decide))
    (sds_one (sd_ret (et_mv rfl (.inl (by kernel_rfl)))))))
theorem c__law_word {fa : Addr} {fd : FuncData} (F : Fun K "_law_word" "_law_word" s__law_word fa fd) (hm : mg "_law_word" = some (.ref fa)) (hb : Binds K fd ["_law_state", "_law_most"] []) (z_range : mg "range" = none) (C__law_take : Cal P w K mg base 1 "_law_take" f__law_take) : Cal P w K mg base 2 "_law_word" f__law_word :=
  Cal.mk' F hm hb sc__law_word (by decide) fun cdv A outer s H E hr =>
    (sds_cons (sd_setV (ps_set sc__law_word.nd rfl (.inr (by kernel_rfl)) (ev_str (by rfl))) (by decide))
    (sds_one (sd_retV (ev_bm (t := .str) f_join (pe_bm PySem.F.plainAttrs_str PySem.F.slot_str_join PySem.F.type_str_join mt_join (eh_v (ev_str (by rfl))) (eah_cons (eh_v (ev_fz (et_comp rfl sc__law_word.nd (ei_arg (pi_range1 (gl_ (by kernel_rfl)) z_range (eav_cons (ev_op op_addA f_add (eh_v ev_int) (eh_v (ev_fz (et_call (C__law_take.mono (by decide)) hr (gl_ (by kernel_rfl)) (takes_of rfl rfl rfl rfl) (eaa_io rfl (.inr (.inl (by kernel_rfl))) (eaa_v (ev_var rfl (.inl (by kernel_rfl))) eaa_nil)))))) eav_nil)) ht_rng1) (own := [("_law_turn", 3)]) (blk_ok (by kernel_rfl)) (sl := [3]) (by decide) (fun _ _ _ _ _ => (gd_name sc__law_word.nd rfl (.inl (by kernel_rfl)) (by decide))) (fun _ _ _ _ _ => ets_nil) (fun _ _ _ _ _ => (ev_ix (ix_A (hu1 hr)) f_idx (eh_s rfl (.inr (.inl (by kernel_rfl)))) (eh_v (ev_fz (et_call (C__law_take.mono (by decide)) hr (gl_ (by kernel_rfl)) takes0 (eaa_io rfl (.inr (.inl (by kernel_rfl))) (eaa_v ev_int eaa_nil))))) (fun _ _ => rfl)))))) eah_nil))))))
theorem c__law_sheet {fa : Addr} {fd : FuncData} (F : Fun K "_law_sheet" "_law_sheet" s__law_sheet fa fd) (hm : mg "_law_sheet" = some (.ref fa)) (hb : Binds K fd ["_law_state", "_law_program_here", "_law_empty"] []) (z_len : mg "len" = none) (z_list : mg "list" = none) (z_range : mg "range" = none) (z_str : mg "str" = none) (C__law_take : Cal P w K mg base 1 "_law_take" f__law_take) (C__law_word : Cal P w K mg base 2 "_law_word" f__law_word) : Cal P w K mg base 3 "_law_sheet" f__law_sheet :=
  Cal.mk' F hm hb sc__law_sheet (by decide) fun cdv A outer s H E hr =>
    (sds_cons (sd_set (ps_set sc__law_sheet.nd rfl (.inl (by kernel_rfl)) et_dnew) (by decide))
    (sds_cons (sd_set (ps_set sc__law_sheet.nd rfl (.inl (by kernel_rfl)) (et_sh (ev_str (by rfl)))) (by decide))
    (sds_cons (sd_while 1000000 (passes_of (K := _) (E₁ := _) rfl) (eb_cmp op_ltA f_lt (eh_v (ev_cb f_len (pe_callB cr_lenA (gl_ (by kernel_rfl)) z_len (by decide +kernel) (eah_cons (eh_s rfl (.inl (by kernel_rfl))) eah_nil)))) (eh_v (ev_op op_addA f_add (eh_v (ev_cb f_len (pe_callB cr_lenA (gl_ (by kernel_rfl)) z_len (by decide +kernel) (eah_cons (eh_s rfl (.inl (by kernel_rfl))) eah_nil)))) (eh_v ev_int))) (nomark _)) (sds_one (sd_asg (sl := []) ev_bl (gd_dx (hu1 hr) rfl (.inl (by kernel_rfl)) (ev_op op_addA f_add (eh_v (ev_op op_addA f_add (eh_v (ev_fz (et_call (C__law_word.mono (by decide)) hr (gl_ (by kernel_rfl)) takes0 (eaa_io rfl (.inl (by kernel_rfl)) (eaa_v ev_int eaa_nil))))) (eh_v (ev_ix (ix_A (hu1 hr)) f_idx (eh_s rfl (.inl (by kernel_rfl))) (eh_v (ev_op op_fdiv f_fdiv (eh_v (ev_cb f_len (pe_callB cr_lenA (gl_ (by kernel_rfl)) z_len (by decide +kernel) (eah_cons (eh_s rfl (.inl (by kernel_rfl))) eah_nil)))) (eh_v ev_int))) (fun _ _ => rfl))))) (eh_v (ev_ix (ix_A (hu1 hr)) f_idx (eh_s rfl (.inl (by kernel_rfl))) (eh_v (ev_op op_mod f_mod (eh_v (ev_cb f_len (pe_callB cr_lenA (gl_ (by kernel_rfl)) z_len (by decide +kernel) (eah_cons (eh_s rfl (.inl (by kernel_rfl))) eah_nil)))) (eh_v ev_int))) (fun _ _ => rfl))))) (by decide))))
    (sds_cons (sd_setV (ps_set sc__law_sheet.nd rfl (.inl (by kernel_rfl)) (ev_fz (et_cb f_listK (pe_callTy (call_list_dK rfl) (gl_ (by kernel_rfl)) z_list (by decide +kernel) (eah_cons (eh_s rfl (.inl (by kernel_rfl))) eah_nil))))) (by decide))
    (sds_cons (sd_set (ps_set sc__law_sheet.nd rfl (.inl (by kernel_rfl)) (et_lst eav_nil)) (by decide))
    (sds_cons (sd_for (sl := [7]) (passes_of (K := _) (E₁ := _) rfl) rfl (ei_arg (pi_range1 (gl_ (by kernel_rfl)) z_range (eav_cons (ev_op op_addA f_add (eh_v (ev_cb f_len (pe_callB cr_lenA (gl_ (by kernel_rfl)) z_len (by decide +kernel) (eah_cons (eh_s rfl (.inl (by kernel_rfl))) eah_nil)))) (eh_v ev_int)) eav_nil)) ht_rng1) (gd_name sc__law_sheet.nd rfl (.inl (by kernel_rfl)) (by decide)) (sds_wipe [7] (sds_cons (sd_if (eb_w (ew_or (eb_cmp (op_inA (hu65 hr)) f_in (eh_s rfl (.inl (by kernel_rfl))) (eh_v (ev_fz (et_comp rfl sc__law_sheet.nd (ei_seq (ev_var rfl (.inl (by kernel_rfl)))) (own := [("_law_row", 8)]) (blk_ok (by kernel_rfl)) (sl := [8]) (by decide) (fun _ _ _ _ _ => (gd_name sc__law_sheet.nd rfl (.inl (by kernel_rfl)) (by decide))) (fun _ _ _ _ _ => (ets_one (eb_cmp (op_inA (hu65 hr)) f_in (eh_v (ev_ix (ix_A (hu1 hr)) f_idx (eh_s rfl (.inl (by kernel_rfl))) (eh_v ev_int) (fun _ _ => rfl))) (eh_v (ev_tup (eav_cons (ev_str (by rfl)) (eav_cons (ev_str (by rfl)) eav_nil)))) (by rfl)))) (fun _ _ _ _ _ => (ev_ix (ix_A (hu1 hr)) f_idx (eh_s rfl (.inl (by kernel_rfl))) (eh_v (ev_un un_neg f_neg (eh_v ev_int))) (fun _ _ => rfl)))))) (by rfl)) (ew_or1 (eb_cmp (op_eqA hr.units) f_eq (eh_v (ev_fz (et_call (C__law_take.mono (by decide)) hr (gl_ (by kernel_rfl)) (takes_of rfl rfl rfl rfl) (eaa_io rfl (.inl (by kernel_rfl)) (eaa_v ev_int eaa_nil))))) (eh_v ev_int) (nomark _))))) (sds_one (sd_expr (ev_mut m_append (pe_bm PySem.F.plainAttrs_list PySem.F.slot_list_append PySem.F.type_list_append mt_append (pe_var rfl (.inl (by kernel_rfl))) (eav_cons (ev_op op_addA f_add (eh_v (ev_ix (ix_A (hu1 hr)) f_idx (eh_s rfl (.inl (by kernel_rfl))) (eh_s rfl (.inl (by kernel_rfl))) (fun _ _ => rfl))) (eh_v (ev_str (by rfl)))) eav_nil))))) sds_nil)
    (sds_cons (sd_if (eb_w (ew_and (eb_cmp op_ltA f_lt (eh_s rfl (.inl (by kernel_rfl))) (eh_v ev_int) (nomark _)) (ew_and1 (eb_cmp (op_eqA hr.units) f_eq (eh_v (ev_fz (et_call (C__law_take.mono (by decide)) hr (gl_ (by kernel_rfl)) (takes_of rfl rfl rfl rfl) (eaa_io rfl (.inl (by kernel_rfl)) (eaa_v ev_int eaa_nil))))) (eh_v ev_int) (nomark _))))) (sds_one (sd_expr (ev_mut m_append (pe_bm PySem.F.plainAttrs_list PySem.F.slot_list_append PySem.F.type_list_append mt_append (pe_var rfl (.inl (by kernel_rfl))) (eav_cons (ev_op op_addA f_add (eh_v (ev_ix (ix_A (hu1 hr)) f_idx (eh_s rfl (.inl (by kernel_rfl))) (eh_v (ev_op op_addA f_add (eh_v (ev_op op_addA f_add (eh_v (ev_cb f_len (pe_callB cr_lenA (gl_ (by kernel_rfl)) z_len (by decide +kernel) (eah_cons (eh_s rfl (.inl (by kernel_rfl))) eah_nil)))) (eh_v ev_int))) (eh_s rfl (.inl (by kernel_rfl))))) (fun _ _ => rfl))) (eh_v (ev_str (by rfl)))) eav_nil))))) sds_nil)
    (sds_cons (sd_if (eb_w (ew_and (eb_val (ev_var rfl (.inl (by kernel_rfl)))) (ew_and1 (eb_cmp (op_eqA hr.units) f_eq (eh_v (ev_fz (et_call (C__law_take.mono (by decide)) hr (gl_ (by kernel_rfl)) (takes_of rfl rfl rfl rfl) (eaa_io rfl (.inl (by kernel_rfl)) (eaa_v ev_int eaa_nil))))) (eh_v ev_int) (nomark _))))) (sds_one (sd_expr (ev_mut m_append (pe_bm PySem.F.plainAttrs_list PySem.F.slot_list_append PySem.F.type_list_append mt_append (pe_var rfl (.inl (by kernel_rfl))) (eav_cons (ev_str (by rfl)) eav_nil))))) sds_nil)
    (sds_one (sd_if (eb_cmp op_ltA f_lt (eh_s rfl (.inl (by kernel_rfl))) (eh_v (ev_cb f_len (pe_callB cr_lenA (gl_ (by kernel_rfl)) z_len (by decide +kernel) (eah_cons (eh_s rfl (.inl (by kernel_rfl))) eah_nil)))) (nomark _)) (sds_cons (sd_setV (ps_set sc__law_sheet.nd rfl (.inl (by kernel_rfl)) (ev_ix (ix_A (hu1 hr)) f_idx (eh_s rfl (.inl (by kernel_rfl))) (eh_s rfl (.inl (by kernel_rfl))) (fun _ _ => rfl))) (by decide))
    (sds_cons (sd_if (eb_cmp (op_inA (hu65 hr)) f_in (eh_v (ev_ix (ix_A (hu1 hr)) f_idx (eh_s rfl (.inl (by kernel_rfl))) (eh_v ev_int) (fun _ _ => rfl))) (eh_v (ev_tup (eav_cons (ev_str (by rfl)) (eav_cons (ev_str (by rfl)) eav_nil)))) (by rfl)) (sds_one (sd_setV (ps_set sc__law_sheet.nd rfl (.inl (by kernel_rfl)) (ev_op op_addA f_add (eh_v (ev_cut (eh_s rfl (.inl (by kernel_rfl))) eo_n (eo_s (ev_un un_neg f_neg (eh_v ev_int))))) (eh_v (ev_tup (eav_cons (ev_ix (ix_A (hu1 hr)) f_idx (eh_s rfl (.inl (by kernel_rfl))) (eh_v (ev_ix (ix_A (hu1 hr)) f_idx (eh_s rfl (.inl (by kernel_rfl))) (eh_v (ev_un un_neg f_neg (eh_v ev_int))) (fun _ _ => rfl))) (fun _ _ => rfl)) eav_nil))))) (by decide))) sds_nil)
    (sds_one (sd_expr (ev_mut m_append (pe_bm PySem.F.plainAttrs_list PySem.F.slot_list_append PySem.F.type_list_append mt_append (pe_var rfl (.inl (by kernel_rfl))) (eav_cons (ev_bm (t := .str) f_join (pe_bm PySem.F.plainAttrs_str PySem.F.slot_str_join PySem.F.type_str_join mt_join (eh_v (ev_str (by rfl))) (eah_cons (eh_v (ev_fz (et_comp rfl sc__law_sheet.nd (ei_tup (ev_var rfl (.inl (by kernel_rfl)))) (own := [("_law_part", 9)]) (blk_ok (by kernel_rfl)) (sl := [9]) (by decide) (fun _ _ _ _ _ => (gd_name sc__law_sheet.nd rfl (.inl (by kernel_rfl)) (by decide))) (fun _ _ _ _ _ => ets_nil) (fun _ _ _ _ _ => (ev_cb f_str (pe_callTy (cr_strD hr.gd (hu65 hr)) (gl_ (by kernel_rfl)) z_str (by decide +kernel) (eah_cons (eh_s rfl (.inl (by kernel_rfl))) eah_nil))))))) eah_nil))) eav_nil))))))) sds_nil)))))) (by decide))
    (sds_one (sd_retV (ev_bm (t := .str) f_join (pe_bm PySem.F.plainAttrs_str PySem.F.slot_str_join PySem.F.type_str_join mt_join (eh_v (ev_str (by rfl))) (eah_cons (eh_s rfl (.inl (by kernel_rfl))) eah_nil)))))))))))
theorem c__law_many {fa : Addr} {fd : FuncData} (F : Fun K "_law_many" "_law_many" s__law_many fa fd) (hm : mg "_law_many" = some (.ref fa)) (hb : Binds K fd ["_law_state"] [])  (C__law_take : Cal P w K mg base 1 "_law_take" f__law_take) : Cal P w K mg base 2 "_law_many" f__law_many :=
  Cal.mk' F hm hb sc__law_many (by decide) fun cdv A outer s H E hr =>
    (sds_cons (sd_if (eb_cmp (op_eqA hr.units) f_eq (eh_v (ev_fz (et_call (C__law_take.mono (by decide)) hr (gl_ (by kernel_rfl)) (takes_of rfl rfl rfl rfl) (eaa_io rfl (.inl (by kernel_rfl)) (eaa_v ev_int eaa_nil))))) (eh_v ev_int) (nomark _)) (sds_one (sd_retV (ev_op op_addA f_add (eh_v ev_int) (eh_v (ev_fz (et_call (C__law_take.mono (by decide)) hr (gl_ (by kernel_rfl)) (takes_of rfl rfl rfl rfl) (eaa_io rfl (.inl (by kernel_rfl)) (eaa_v ev_int eaa_nil)))))))) sds_nil)
    (sds_one (sd_ret (et_call (C__law_take.mono (by decide)) hr (gl_ (by kernel_rfl)) (takes_of rfl rfl rfl rfl) (eaa_io rfl (.inl (by kernel_rfl)) (eaa_v ev_int eaa_nil))))))
theorem c__law_is_figures {fa : Addr} {fd : FuncData} (F : Fun K "_law_is_figures" "_law_is_figures" s__law_is_figures fa fd) (hm : mg "_law_is_figures" = some (.ref fa)) (hb : Binds K fd ["_law_word_here"] []) (z_all : mg "all" = none) (z_int : mg "int" = none) (z_len : mg "len" = none)  : Cal P w K mg base 1 "_law_is_figures" f__law_is_figures :=
  Cal.mk' F hm hb sc__law_is_figures (by decide) fun cdv A outer s H E hr =>
    (sds_cons (sd_if (eb_w (ew_or (eb_not (eb_chain op_le f_le op_le f_le (eh_v ev_int) (eh_v (ev_cb f_len (pe_callB cr_lenA (gl_ (by kernel_rfl)) z_len (by decide +kernel) (eah_cons (eh_s rfl (.inl (by kernel_rfl))) eah_nil)))) (eh_v ev_int))) (ew_or1 (eb_not (eb_val (ev_cb f_all (pe_callB (cr_all rfl) (gl_ (by kernel_rfl)) z_all (by decide +kernel) (eah_cons (eh_v (ev_fz (et_comp rfl sc__law_is_figures.nd (ei_str (ev_var rfl (.inl (by kernel_rfl)))) (own := [("_law_sign", 1)]) (blk_ok (by kernel_rfl)) (sl := [1]) (by decide) (fun _ _ _ _ _ => (gd_name sc__law_is_figures.nd rfl (.inl (by kernel_rfl)) (by decide))) (fun _ _ _ _ _ => ets_nil) (fun _ _ _ _ _ => (ev_cmp (op_inA (hu65 hr)) (Op2B.toV f_in) (eh_s rfl (.inl (by kernel_rfl))) (eh_v (ev_str (by rfl))) (by rfl)))))) eah_nil)))))))) (sds_one (sd_retV ev_bl)) sds_nil)
    (sds_one (sd_retV (ev_and (ev_or (ev_cmp (op_eqA hr.units) (Op2B.toV f_eq) (eh_s rfl (.inl (by kernel_rfl))) (eh_v (ev_str (by rfl))) (nomark _)) (ev_one (ev_cmp (op_neA hr.units) (Op2B.toV f_ne) (eh_v (ev_ix (ix_A (hu1 hr)) f_idx (eh_s rfl (.inl (by kernel_rfl))) (eh_v ev_int) (fun _ _ => rfl))) (eh_v (ev_str (by rfl))) (nomark _)))) (ev_one (ev_cmp op_ltA (Op2B.toV f_lt) (eh_v (ev_cb f_intS (pe_callTy call_int_str (gl_ (by kernel_rfl)) z_int (by decide +kernel) (eah_cons (eh_s rfl (.inl (by kernel_rfl))) eah_nil)))) (eh_v ev_int) (nomark _)))))))
theorem c__law_is_name {fa : Addr} {fd : FuncData} (F : Fun K "_law_is_name" "_law_is_name" s__law_is_name fa fd) (hm : mg "_law_is_name" = some (.ref fa)) (hb : Binds K fd ["_law_word_here"] []) (z_all : mg "all" = none) (z_len : mg "len" = none)  : Cal P w K mg base 1 "_law_is_name" f__law_is_name :=
  Cal.mk' F hm hb sc__law_is_name (by decide) fun cdv A outer s H E hr =>
    (sds_one (sd_retV (ev_and (ev_chain op_le f_le op_le f_le (eh_v ev_int) (eh_v (ev_cb f_len (pe_callB cr_lenA (gl_ (by kernel_rfl)) z_len (by decide +kernel) (eah_cons (eh_s rfl (.inl (by kernel_rfl))) eah_nil)))) (eh_v ev_int)) (ev_one (ev_cb f_all (pe_callB (cr_all rfl) (gl_ (by kernel_rfl)) z_all (by decide +kernel) (eah_cons (eh_v (ev_fz (et_comp rfl sc__law_is_name.nd (ei_str (ev_var rfl (.inl (by kernel_rfl)))) (own := [("_law_sign", 1)]) (blk_ok (by kernel_rfl)) (sl := [1]) (by decide) (fun _ _ _ _ _ => (gd_name sc__law_is_name.nd rfl (.inl (by kernel_rfl)) (by decide))) (fun _ _ _ _ _ => ets_nil) (fun _ _ _ _ _ => (ev_cmp (op_inA (hu65 hr)) (Op2B.toV f_in) (eh_s rfl (.inl (by kernel_rfl))) (eh_v (ev_str (by rfl))) (by rfl)))))) eah_nil)))))))
theorem c__law_row_told {fa : Addr} {fd : FuncData} (F : Fun K "_law_row_told" "_law_row_told" s__law_row_told fa fd) (hm : mg "_law_row_told" = some (.ref fa)) (hb : Binds K fd ["_law_words"] []) (z_int : mg "int" = none) (z_len : mg "len" = none) (z_tuple : mg "tuple" = none) (C__law_is_figures : Cal P w K mg base 1 "_law_is_figures" f__law_is_figures) (C__law_is_name : Cal P w K mg base 1 "_law_is_name" f__law_is_name) : Cal P w K mg base 2 "_law_row_told" f__law_row_told :=
  Cal.mk' F hm hb sc__law_row_told (by decide) fun cdv A outer s H E hr =>
    (sds_cons (sd_if (eb_cmp (op_eqA hr.units) f_eq (eh_v (ev_cb f_len (pe_callB cr_lenA (gl_ (by kernel_rfl)) z_len (by decide +kernel) (eah_cons (eh_s rfl (.inl (by kernel_rfl))) eah_nil)))) (eh_v ev_int) (nomark _)) (sds_cons (sd_if (eb_cmp (op_eqA hr.units) f_eq (eh_v (ev_ix (ix_A (hu1 hr)) f_idx (eh_s rfl (.inl (by kernel_rfl))) (eh_v ev_int) (fun _ _ => rfl))) (eh_v (ev_str (by rfl))) (nomark _)) (sds_one (sd_retV (ev_tup (eav_cons (ev_str (by rfl)) (eav_cons (ev_tup (eav_cons (ev_str (by rfl)) eav_nil)) eav_nil))))) sds_nil)
    (sds_one (sd_retV (ev_if (eb_w (ew_and (eb_cmp (op_eqA hr.units) f_eq (eh_v (ev_cut (eh_v (ev_ix (ix_A (hu1 hr)) f_idx (eh_s rfl (.inl (by kernel_rfl))) (eh_v ev_int) (fun _ _ => rfl))) (eo_s (ev_un un_neg f_neg (eh_v ev_int))) eo_n)) (eh_v (ev_str (by rfl))) (nomark _)) (ew_and1 (eb_val (ev_fz (et_call (C__law_is_name.mono (by decide)) hr (gl_ (by kernel_rfl)) (takes_of rfl rfl rfl rfl) (eaa_v (ev_cut (eh_v (ev_ix (ix_A (hu1 hr)) f_idx (eh_s rfl (.inl (by kernel_rfl))) (eh_v ev_int) (fun _ _ => rfl))) eo_n (eo_s (ev_un un_neg f_neg (eh_v ev_int)))) eaa_nil))))))) (ev_tup (eav_cons (ev_str (by rfl)) (eav_cons (ev_cut (eh_v (ev_ix (ix_A (hu1 hr)) f_idx (eh_s rfl (.inl (by kernel_rfl))) (eh_v ev_int) (fun _ _ => rfl))) eo_n (eo_s (ev_un un_neg f_neg (eh_v ev_int)))) eav_nil))) ev_non)))) sds_nil)
    (sds_cons (sd_if (eb_cmp (op_eqA hr.units) f_eq (eh_v (ev_ix (ix_A (hu1 hr)) f_idx (eh_s rfl (.inl (by kernel_rfl))) (eh_v ev_int) (fun _ _ => rfl))) (eh_v (ev_str (by rfl))) (nomark _)) (sds_one (sd_retV (ev_if (eb_w (ew_and (eb_cmp (op_eqA hr.units) f_eq (eh_v (ev_cb f_len (pe_callB cr_lenA (gl_ (by kernel_rfl)) z_len (by decide +kernel) (eah_cons (eh_s rfl (.inl (by kernel_rfl))) eah_nil)))) (eh_v ev_int) (nomark _)) (ew_and1 (eb_val (ev_fz (et_call (C__law_is_name.mono (by decide)) hr (gl_ (by kernel_rfl)) (takes_of rfl rfl rfl rfl) (eaa_v (ev_ix (ix_A (hu1 hr)) f_idx (eh_s rfl (.inl (by kernel_rfl))) (eh_v ev_int) (fun _ _ => rfl)) eaa_nil))))))) (ev_tup (eav_cons (ev_str (by rfl)) (eav_cons (ev_tup (eav_cons (ev_str (by rfl)) (eav_cons (ev_ix (ix_A (hu1 hr)) f_idx (eh_s rfl (.inl (by kernel_rfl))) (eh_v ev_int) (fun _ _ => rfl)) eav_nil))) eav_nil))) ev_non))) sds_nil)
    (sds_cons (sd_if (eb_w (ew_or (eb_cmp (op_notInA (hu65 hr)) f_notIn (eh_v (ev_ix (ix_A (hu1 hr)) f_idx (eh_s rfl (.inl (by kernel_rfl))) (eh_v ev_int) (fun _ _ => rfl))) (eh_v (ev_tup (eav_cons (ev_str (by rfl)) (eav_cons (ev_str (by rfl)) (eav_cons (ev_str (by rfl)) (eav_cons (ev_str (by rfl)) eav_nil)))))) (by rfl)) (ew_or1 (eb_cmp op_gt f_gt (eh_v (ev_cb f_len (pe_callB cr_lenA (gl_ (by kernel_rfl)) z_len (by decide +kernel) (eah_cons (eh_s rfl (.inl (by kernel_rfl))) eah_nil)))) (eh_v ev_int) (nomark _))))) (sds_one (sd_retV ev_non)) sds_nil)
    (sds_cons (sd_if (eb_cmp (op_eqA hr.units) f_eq (eh_v (ev_cb f_len (pe_callB cr_lenA (gl_ (by kernel_rfl)) z_len (by decide +kernel) (eah_cons (eh_s rfl (.inl (by kernel_rfl))) eah_nil)))) (eh_v ev_int) (nomark _)) (sds_one (sd_retV (ev_if (eb_cmp (op_inA (hu65 hr)) f_in (eh_v (ev_ix (ix_A (hu1 hr)) f_idx (eh_s rfl (.inl (by kernel_rfl))) (eh_v ev_int) (fun _ _ => rfl))) (eh_v (ev_tup (eav_cons (ev_str (by rfl)) (eav_cons (ev_str (by rfl)) eav_nil)))) (by rfl)) (ev_tup (eav_cons (ev_str (by rfl)) (eav_cons (ev_cb f_tuple (pe_callTy call_tuple_of (gl_ (by kernel_rfl)) z_tuple (by decide +kernel) (eah_cons (eh_s rfl (.inl (by kernel_rfl))) eah_nil))) eav_nil))) ev_non))) sds_nil)
    (sds_cons (sd_set (ps_set sc__law_row_told.nd rfl (.inl (by kernel_rfl)) (et_dsp (ekv_s (by rfl) (ev_fz (et_call (C__law_is_figures.mono (by decide)) hr (gl_ (by kernel_rfl)) (takes_of rfl rfl rfl rfl) (eaa_v (ev_ix (ix_A (hu1 hr)) f_idx (eh_s rfl (.inl (by kernel_rfl))) (eh_v ev_int) (fun _ _ => rfl)) eaa_nil))) (ekv_s (by rfl) (ev_fz (et_call (C__law_is_name.mono (by decide)) hr (gl_ (by kernel_rfl)) (takes_of rfl rfl rfl rfl) (eaa_v (ev_ix (ix_A (hu1 hr)) f_idx (eh_s rfl (.inl (by kernel_rfl))) (eh_v ev_int) (fun _ _ => rfl)) eaa_nil))) ekv_nil)) (by rfl) (by rfl) (by simp) (by decide))) (by decide))
    (sds_cons (sd_asg (sl := []) (ev_cmp (op_inA (hu65 hr)) (Op2B.toV f_in) (eh_v (ev_ix (ix_A (hu1 hr)) f_idx (eh_s rfl (.inl (by kernel_rfl))) (eh_v ev_int) (fun _ _ => rfl))) (eh_v (ev_tup (eav_cons (ev_str (by rfl)) (eav_cons (ev_str (by rfl)) (eav_cons (ev_str (by rfl)) (eav_cons (ev_str (by rfl)) eav_nil)))))) (by rfl)) (gd_dx (hu1 hr) rfl (.inl (by kernel_rfl)) (ev_str (by rfl))) (by decide))
    (sds_cons (sd_asg (sl := []) (ev_ix (ix_A (hu1 hr)) f_idx (eh_s rfl (.inl (by kernel_rfl))) (eh_v (ev_str (by rfl))) (fun _ _ => rfl)) (gd_dx (hu1 hr) rfl (.inl (by kernel_rfl)) (ev_str (by rfl))) (by decide))
    (sds_cons (sd_if (eb_not (eb_val (ev_bm (t := .dct) f_get (pe_bm PySem.F.plainAttrs_dict PySem.F.slot_dict_get PySem.F.type_dict_get (mt_dget (hu1 hr)) (eh_s rfl (.inl (by kernel_rfl))) (eah_cons (eh_v (ev_ix (ix_A (hu1 hr)) f_idx (eh_s rfl (.inl (by kernel_rfl))) (eh_v ev_int) (fun _ _ => rfl))) (eah_cons (eh_v ev_bl) eah_nil)))))) (sds_one (sd_retV ev_non)) sds_nil)
    (sds_one (sd_retV (ev_tup (eav_cons (ev_str (by rfl)) (eav_cons (ev_tup (eav_cons (ev_ix (ix_A (hu1 hr)) f_idx (eh_s rfl (.inl (by kernel_rfl))) (eh_v ev_int) (fun _ _ => rfl)) (eav_cons (ev_ix (ix_A (hu1 hr)) f_idx (eh_s rfl (.inl (by kernel_rfl))) (eh_v ev_int) (fun _ _ => rfl)) (eav_cons (ev_if (eb_cmp (op_eqA hr.units) f_eq (eh_v (ev_ix (ix_A (hu1 hr)) f_idx (eh_s rfl (.inl (by kernel_rfl))) (eh_v ev_int) (fun _ _ => rfl))) (eh_v (ev_str (by rfl))) (nomark _)) (ev_cb f_intS (pe_callTy call_int_str (gl_ (by kernel_rfl)) z_int (by decide +kernel) (eah_cons (eh_v (ev_ix (ix_A (hu1 hr)) f_idx (eh_s rfl (.inl (by kernel_rfl))) (eh_v ev_int) (fun _ _ => rfl))) eah_nil))) (ev_ix (ix_A (hu1 hr)) f_idx (eh_s rfl (.inl (by kernel_rfl))) (eh_v ev_int) (fun _ _ => rfl))) eav_nil)))) eav_nil)))))))))))))
theorem c__law_read {fa : Addr} {fd : FuncData} (F : Fun K "_law_read" "_law_read" s__law_read fa fd) (hm : mg "_law_read" = some (.ref fa)) (hb : Binds K fd ["_law_text"] []) (z_enumerate : mg "enumerate" = none) (z_len : mg "len" = none) (C__law_row_told : Cal P w K mg base 2 "_law_row_told" f__law_row_told) : Cal P w K mg base 3 "_law_read" f__law_read :=
  Cal.mk' F hm hb sc__law_read (by decide) fun cdv A outer s H E hr =>
    (sds_cons (sd_setC rfl sc__law_read.nd rfl (by kernel_rfl) rfl (ei_seq (ev_fz (et_bm (t := .str) f_split (pe_bm PySem.F.plainAttrs_str PySem.F.slot_str_split PySem.F.type_str_split mt_split (eh_s rfl (.inl (by kernel_rfl))) (eah_cons (eh_v (ev_str (by rfl))) eah_nil))))) (own := [("_law_row", 8)]) (blk_ok (by kernel_rfl)) (sl := [8]) (by decide) (fun _ _ _ _ _ => (gd_name sc__law_read.nd rfl (.inl (by kernel_rfl)) (by decide))) (fun _ _ _ _ _ => ets_nil) (fun _ _ _ _ _ => (ev_if (eb_cmp (op_neA hr.units) f_ne (eh_s rfl (.inl (by kernel_rfl))) (eh_v (ev_str (by rfl))) (nomark _)) (ev_fz (et_call (C__law_row_told.mono (by decide)) hr (gl_ (by kernel_rfl)) takes0 (eaa_v (ev_fz (et_bm (t := .str) f_split (pe_bm PySem.F.plainAttrs_str PySem.F.slot_str_split PySem.F.type_str_split mt_split (eh_s rfl (.inl (by kernel_rfl))) (eah_cons (eh_v (ev_str (by rfl))) eah_nil)))) eaa_nil))) (ev_tup (eav_cons (ev_str (by rfl)) (eav_cons (ev_str (by rfl)) eav_nil))))) (by decide))
    (sds_cons (sd_setC rfl sc__law_read.nd rfl (by kernel_rfl) rfl (ei_seq (ev_fv rfl (.inl (by kernel_rfl)))) (own := [("_law_one", 6)]) (blk_ok (by kernel_rfl)) (sl := [6]) (by decide) (fun _ _ _ _ _ => (gd_name sc__law_read.nd rfl (.inl (by kernel_rfl)) (by decide))) (fun _ _ _ _ _ => (ets_one (eb_w (ew_and (eb_cmp op_notN f_notN (eh_s rfl (.inl (by kernel_rfl))) (eh_v ev_non) (nomark _)) (ew_and1 (eb_cmp (op_eqA hr.units) f_eq (eh_v (ev_ix (ix_A (hu1 hr)) f_idx (eh_s rfl (.inl (by kernel_rfl))) (eh_v ev_int) (fun _ _ => rfl))) (eh_v (ev_str (by rfl))) (nomark _))))))) (fun _ _ _ _ _ => (ev_ix (ix_A (hu1 hr)) f_idx (eh_s rfl (.inl (by kernel_rfl))) (eh_v ev_int) (fun _ _ => rfl))) (by decide))
    (sds_cons (sd_par rfl sc__law_read.nd rfl rfl (by decide) (by kernel_rfl) (by kernel_rfl) (et_lst eav_nil) et_dnew (by decide) (by decide) (by kernel_rfl))
    (sds_cons (sd_for (sl := [5, 6]) (passes_of (K := _) (E₁ := _) rfl) rfl (ei_arg (pi_enum (gl_ (by kernel_rfl)) z_enumerate (eav_cons (ev_fv rfl (.inl (by kernel_rfl))) eav_nil)) ht_enum) (gd_tup rfl (gds_cons (gd_name sc__law_read.nd rfl (.inl (by kernel_rfl)) (by decide)) (gds_cons (gd_name sc__law_read.nd rfl (.inl (by kernel_rfl)) (by decide)) gds_nil)) rfl) (sds_wipe [5, 6] (sds_cons (sd_if (eb_w (ew_or (eb_cmp op_isN f_isN (eh_s rfl (.inl (by kernel_rfl))) (eh_v ev_non) (nomark _)) (ew_or (eb_w (ew_and (eb_cmp (op_eqA hr.units) f_eq (eh_v (ev_ix (ix_A (hu1 hr)) f_idx (eh_s rfl (.inl (by kernel_rfl))) (eh_v ev_int) (fun _ _ => rfl))) (eh_v (ev_str (by rfl))) (nomark _)) (ew_and1 (eb_cmp (op_inA (hu65 hr)) f_in (eh_v (ev_ix (ix_A (hu1 hr)) f_idx (eh_s rfl (.inl (by kernel_rfl))) (eh_v ev_int) (fun _ _ => rfl))) (eh_s rfl (.inl (by kernel_rfl))) (by rfl))))) (ew_or1 (eb_w (ew_and (eb_cmp (op_eqA hr.units) f_eq (eh_v (ev_ix (ix_A (hu1 hr)) f_idx (eh_s rfl (.inl (by kernel_rfl))) (eh_v ev_int) (fun _ _ => rfl))) (eh_v (ev_str (by rfl))) (nomark _)) (ew_and1 (eb_cmp (op_eqA hr.units) f_eq (eh_v (ev_cb f_len (pe_callB cr_lenA (gl_ (by kernel_rfl)) z_len (by decide +kernel) (eah_cons (eh_s rfl (.inl (by kernel_rfl))) eah_nil)))) (eh_v ev_int) (nomark _))))))))) (sds_one (sd_retV (ev_tup (eav_cons (ev_var rfl (.inl (by kernel_rfl))) (eav_cons ev_non eav_nil))))) sds_nil)
    (sds_one (sd_if (eb_cmp (op_eqA hr.units) f_eq (eh_v (ev_ix (ix_A (hu1 hr)) f_idx (eh_s rfl (.inl (by kernel_rfl))) (eh_v ev_int) (fun _ _ => rfl))) (eh_v (ev_str (by rfl))) (nomark _)) (sds_cons (sd_if (eb_w (ew_and (eb_cmp (op_inA (hu65 hr)) f_in (eh_v (ev_ix (ix_A (hu1 hr)) f_idx (eh_v (ev_ix (ix_A (hu1 hr)) f_idx (eh_s rfl (.inl (by kernel_rfl))) (eh_v ev_int) (fun _ _ => rfl))) (eh_v ev_int) (fun _ _ => rfl))) (eh_v (ev_tup (eav_cons (ev_str (by rfl)) (eav_cons (ev_str (by rfl)) eav_nil)))) (by rfl)) (ew_and1 (eb_cmp (op_notInA (hu65 hr)) f_notIn (eh_v (ev_ix (ix_A (hu1 hr)) f_idx (eh_v (ev_ix (ix_A (hu1 hr)) f_idx (eh_s rfl (.inl (by kernel_rfl))) (eh_v ev_int) (fun _ _ => rfl))) (eh_v (ev_un un_neg f_neg (eh_v ev_int))) (fun _ _ => rfl))) (eh_s rfl (.inl (by kernel_rfl))) (by rfl))))) (sds_one (sd_retV (ev_tup (eav_cons (ev_var rfl (.inl (by kernel_rfl))) (eav_cons ev_non eav_nil))))) sds_nil)
    (sds_one (sd_expr (ev_mut m_append (pe_bm PySem.F.plainAttrs_list PySem.F.slot_list_append PySem.F.type_list_append mt_append (pe_var rfl (.inl (by kernel_rfl))) (eav_cons (ev_ix (ix_A (hu1 hr)) f_idx (eh_s rfl (.inl (by kernel_rfl))) (eh_v ev_int) (fun _ _ => rfl)) eav_nil)))))) (sds_one (sd_if (eb_cmp (op_eqA hr.units) f_eq (eh_v (ev_ix (ix_A (hu1 hr)) f_idx (eh_s rfl (.inl (by kernel_rfl))) (eh_v ev_int) (fun _ _ => rfl))) (eh_v (ev_str (by rfl))) (nomark _)) (sds_one (sd_asg (sl := []) (ev_cb f_len (pe_callB cr_lenA (gl_ (by kernel_rfl)) z_len (by decide +kernel) (eah_cons (eh_s rfl (.inl (by kernel_rfl))) eah_nil))) (gd_dx (hu1 hr) rfl (.inl (by kernel_rfl)) (ev_ix (ix_A (hu1 hr)) f_idx (eh_s rfl (.inl (by kernel_rfl))) (eh_v ev_int) (fun _ _ => rfl))) (by decide))) sds_nil)))))) (by decide))
    (sds_cons (sd_set (ps_set sc__law_read.nd rfl (.inl (by kernel_rfl)) (et_lst eav_nil)) (by decide))
    (sds_cons (sd_for (sl := [8]) (passes_of (K := _) (E₁ := _) rfl) rfl (ei_seq (ev_fv rfl (.inl (by kernel_rfl)))) (gd_name sc__law_read.nd rfl (.inl (by kernel_rfl)) (by decide)) (sds_wipe [8] (sds_one (sd_expr (ev_mut m_append (pe_bm PySem.F.plainAttrs_list PySem.F.slot_list_append PySem.F.type_list_append mt_append (pe_var rfl (.inl (by kernel_rfl))) (eav_cons (ev_if (eb_cmp (op_inA (hu65 hr)) f_in (eh_v (ev_ix (ix_A (hu1 hr)) f_idx (eh_s rfl (.inl (by kernel_rfl))) (eh_v ev_int) (fun _ _ => rfl))) (eh_v (ev_tup (eav_cons (ev_str (by rfl)) (eav_cons (ev_str (by rfl)) eav_nil)))) (by rfl)) (ev_op op_addA f_add (eh_v (ev_cut (eh_s rfl (.inl (by kernel_rfl))) eo_n (eo_s (ev_un un_neg f_neg (eh_v ev_int))))) (eh_v (ev_tup (eav_cons (ev_ix (ix_A (hu1 hr)) f_idx (eh_s rfl (.inl (by kernel_rfl))) (eh_v (ev_ix (ix_A (hu1 hr)) f_idx (eh_s rfl (.inl (by kernel_rfl))) (eh_v (ev_un un_neg f_neg (eh_v ev_int))) (fun _ _ => rfl))) (fun _ _ => rfl)) eav_nil)))) (ev_var rfl (.inl (by kernel_rfl)))) eav_nil)))))) (by decide))
    (sds_one (sd_retV (ev_tup (eav_cons ev_non (eav_cons (ev_fv rfl (.inl (by kernel_rfl))) eav_nil)))))))))))
theorem c__law_same {fa : Addr} {fd : FuncData} (F : Fun K "_law_same" "_law_same" s__law_same fa fd) (hm : mg "_law_same" = some (.ref fa)) (hb : Binds K fd ["_law_found", "_law_due"] []) (z_all : mg "all" = none) (z_bool : mg "bool" = none) (z_int : mg "int" = none) (z_isinstance : mg "isinstance" = none) (z_len : mg "len" = none) (z_list : mg "list" = none) (z_str : mg "str" = none) (z_tuple : mg "tuple" = none) (z_zip : mg "zip" = none)  : ∀ n, Cal P w K mg base (n + 1) "_law_same" (r__law_same n)
  | 0 => (Cal.zero F hm hb sc__law_same).mono (by omega)
  | n + 1 => Cal.mk' (k := n + 1) F hm hb sc__law_same (by decide) fun cdv A outer s H E hr =>
    have Cr := c__law_same F hm hb z_all z_bool z_int z_isinstance z_len z_list z_str z_tuple z_zip n
    (sds_cons (sd_if (eb_val (ev_isi2 .list .tuple (gl_ (by kernel_rfl)) z_isinstance (gl_ (by kernel_rfl)) z_list (gl_ (by kernel_rfl)) z_tuple (eh_s rfl (.inl (by kernel_rfl))))) (sds_cons (sd_if (eb_w (ew_or (eb_cmp (op_neA hr.units) f_ne (eh_v (ev_isi .list (gl_ (by kernel_rfl)) z_isinstance (gl_ (by kernel_rfl)) z_list (eh_s rfl (.inl (by kernel_rfl))))) (eh_v (ev_isi .list (gl_ (by kernel_rfl)) z_isinstance (gl_ (by kernel_rfl)) z_list (eh_s rfl (.inl (by kernel_rfl))))) (nomark _)) (ew_or1 (eb_cmp (op_neA hr.units) f_ne (eh_v (ev_isi .tuple (gl_ (by kernel_rfl)) z_isinstance (gl_ (by kernel_rfl)) z_tuple (eh_s rfl (.inl (by kernel_rfl))))) (eh_v (ev_isi .tuple (gl_ (by kernel_rfl)) z_isinstance (gl_ (by kernel_rfl)) z_tuple (eh_s rfl (.inl (by kernel_rfl))))) (nomark _))))) (sds_one (sd_retV ev_bl)) sds_nil)
    (sds_one (sd_retV (ev_and (ev_cmp (op_eqA hr.units) (Op2B.toV f_eq) (eh_v (ev_cb f_len (pe_callB cr_lenA (gl_ (by kernel_rfl)) z_len (by decide +kernel) (eah_cons (eh_s rfl (.inl (by kernel_rfl))) eah_nil)))) (eh_v (ev_cb f_len (pe_callB cr_lenA (gl_ (by kernel_rfl)) z_len (by decide +kernel) (eah_cons (eh_s rfl (.inl (by kernel_rfl))) eah_nil)))) (nomark _)) (ev_one (ev_cb f_all (pe_callB (cr_all rfl) (gl_ (by kernel_rfl)) z_all (by decide +kernel) (eah_cons (eh_v (ev_fz (et_comp rfl sc__law_same.nd (ei_arg (RZ.pi_zipA (gl_ (by kernel_rfl)) z_zip (eav_cons (ev_var rfl (.inl (by kernel_rfl))) (eav_cons (ev_var rfl (.inl (by kernel_rfl))) eav_nil))) ht_zipA) (own := [("_law_one", 2), ("_law_other", 3)]) (blk_ok (by kernel_rfl)) (sl := [2, 3]) (by decide) (fun _ _ _ _ _ => (gd_tup rfl (gds_cons (gd_name sc__law_same.nd rfl (.inl (by kernel_rfl)) (by decide)) (gds_cons (gd_name sc__law_same.nd rfl (.inl (by kernel_rfl)) (by decide)) gds_nil)) rfl)) (fun _ _ _ _ _ => ets_nil) (fun _ _ _ _ _ => (ev_fz (et_call (Cr.mono (by omega)) hr (gl_ (by kernel_rfl)) takes0 (eaa_v (ev_var rfl (.inl (by kernel_rfl))) (eaa_v (ev_var rfl (.inl (by kernel_rfl))) eaa_nil)))))))) eah_nil)))))))) sds_nil)
    (sds_cons (sd_if (eb_w (ew_and (eb_val (ev_isi .int (gl_ (by kernel_rfl)) z_isinstance (gl_ (by kernel_rfl)) z_int (eh_s rfl (.inl (by kernel_rfl))))) (ew_and1 (eb_not (eb_val (ev_isi .bool (gl_ (by kernel_rfl)) z_isinstance (gl_ (by kernel_rfl)) z_bool (eh_s rfl (.inl (by kernel_rfl))))))))) (sds_one (sd_retV (ev_and (ev_isi .int (gl_ (by kernel_rfl)) z_isinstance (gl_ (by kernel_rfl)) z_int (eh_s rfl (.inl (by kernel_rfl)))) (ev_and (ev_not (ev_isi .bool (gl_ (by kernel_rfl)) z_isinstance (gl_ (by kernel_rfl)) z_bool (eh_s rfl (.inl (by kernel_rfl))))) (ev_one (ev_cmp (op_eqA hr.units) (Op2B.toV f_eq) (eh_s rfl (.inl (by kernel_rfl))) (eh_s rfl (.inl (by kernel_rfl))) (nomark _))))))) sds_nil)
    (sds_cons (sd_if (eb_val (ev_isi .str (gl_ (by kernel_rfl)) z_isinstance (gl_ (by kernel_rfl)) z_str (eh_s rfl (.inl (by kernel_rfl))))) (sds_one (sd_retV (ev_and (ev_isi .str (gl_ (by kernel_rfl)) z_isinstance (gl_ (by kernel_rfl)) z_str (eh_s rfl (.inl (by kernel_rfl)))) (ev_one (ev_cmp (op_eqA hr.units) (Op2B.toV f_eq) (eh_s rfl (.inl (by kernel_rfl))) (eh_s rfl (.inl (by kernel_rfl))) (nomark _)))))) sds_nil)
    (sds_cons (sd_if (eb_cmp op_isN f_isN (eh_s rfl (.inl (by kernel_rfl))) (eh_v ev_non) (nomark _)) (sds_one (sd_retV (ev_cmp op_isN (Op2B.toV f_isN) (eh_s rfl (.inl (by kernel_rfl))) (eh_v ev_non) (nomark _)))) sds_nil)
    (sds_one (sd_retV (ev_and (ev_isi .bool (gl_ (by kernel_rfl)) z_isinstance (gl_ (by kernel_rfl)) z_bool (eh_s rfl (.inl (by kernel_rfl)))) (ev_one (ev_cmp (op_eqA hr.units) (Op2B.toV f_eq) (eh_s rfl (.inl (by kernel_rfl))) (eh_s rfl (.inl (by kernel_rfl))) (nomark _))))))))))
theorem c_Reading____init__ {c fa : Addr} {fd : FuncData} (F : Fun K "__init__" "Reading.__init__" s_Reading____init__ fa fd) (hT : Top K [82, 101, 97, 100, 105, 110, 103] c) (hm : mg (sT [82, 101, 97, 100, 105, 110, 103]) = some (.ref c)) (hk : Mk K c fa) (hb : Binds K fd ["self", "known"] [])  (I_Reading : ClsI K mg [82, 101, 97, 100, 105, 110, 103] [[107, 110, 111, 119, 110], [114, 111, 119, 115], [112, 108, 97, 99, 101, 115]]) : Ini P w K mg base 1 [82, 101, 97, 100, 105, 110, 103] f_Reading____init__ :=
  ⟨c, fa, fd, _, hT, hm, hk, fn_ok F sc_Reading____init__ (by decide) fun cdv A outer s H E hr =>
    (sds_cons (sd_fldI I_Reading (by decide) (by rfl) rfl (.inl (by kernel_rfl)) (ev_var rfl (.inl (by kernel_rfl))))
    (sds_cons (sd_fldIO I_Reading (by decide) (by rfl) rfl (.inl (by kernel_rfl)) (et_lst eav_nil))
    (sds_one (sd_fldIO I_Reading (by decide) (by rfl) rfl (.inl (by kernel_rfl)) et_dnew)))), hb⟩
theorem c_Reading__program {c fa : Addr} {fd : FuncData} (F : Fun K "program" "Reading.program" s_Reading__program fa fd) (hT : Top K [82, 101, 97, 100, 105, 110, 103] c) (hl : Cls K c) (hk : Meth K c (sT [112, 114, 111, 103, 114, 97, 109]) fa) (hb : Binds K fd ["self"] [])  (I_Reading : ClsI K mg [82, 101, 97, 100, 105, 110, 103] [[107, 110, 111, 119, 110], [114, 111, 119, 115], [112, 108, 97, 99, 101, 115]]) (G_JUMPS : GlD K mg "JUMPS" (.tup [.str [106, 117, 109, 112], .str [122, 101, 114, 111]])) : CalM P w K mg base 1 [82, 101, 97, 100, 105, 110, 103] [112, 114, 111, 103, 114, 97, 109] f_Reading__program :=
  ⟨c, fa, fd, _, hT, hl, hk, fn_ok F sc_Reading__program (by decide) fun cdv A outer s H E hr =>
    (sds_one (sd_ret (et_lend3 (et_comp rfl sc_Reading__program.nd (ei_seq (ev_fldO I_Reading (by decide) (by rfl) (eh_s rfl (.inr (.inl (by kernel_rfl)))))) (own := [("row", 1)]) (blk_ok (by kernel_rfl)) (sl := [1]) (by decide) (fun _ _ _ _ _ => (gd_name sc_Reading__program.nd rfl (.inl (by kernel_rfl)) (by decide))) (fun _ _ _ _ _ => ets_nil) (fun _ _ _ _ _ => (ev_if (eb_cmp (op_inA (hu65 hr)) f_in (eh_v (ev_ix (ix_A (hu1 hr)) f_idx (eh_s rfl (.inl (by kernel_rfl))) (eh_v ev_int) (fun _ _ => rfl))) (eh_v (ev_gl G_JUMPS (gl_ (by kernel_rfl)))) (by rfl)) (ev_op op_addA f_add (eh_v (ev_cut (eh_s rfl (.inl (by kernel_rfl))) eo_n (eo_s (ev_un un_neg f_neg (eh_v ev_int))))) (eh_v (ev_tup (eav_cons (ev_ix (ix_A (hu1 hr)) f_idx (eh_v (ev_fldO I_Reading (by decide) (by rfl) (eh_s rfl (.inr (.inl (by kernel_rfl)))))) (eh_v (ev_ix (ix_A (hu1 hr)) f_idx (eh_s rfl (.inl (by kernel_rfl))) (eh_v (ev_un un_neg f_neg (eh_v ev_int))) (fun _ _ => rfl))) (fun _ _ => rfl)) eav_nil)))) (ev_var rfl (.inl (by kernel_rfl))))))))), hb⟩
theorem c_is_name {fa : Addr} {fd : FuncData} (F : Fun K "is_name" "is_name" s_is_name fa fd) (hm : mg "is_name" = some (.ref fa)) (hb : Binds K fd ["thing"] []) (z_isinstance : mg "isinstance" = none) (z_len : mg "len" = none) (z_str : mg "str" = none) (G_LETTERS : GlD K mg "LETTERS" (.str [97, 98, 99, 100, 101, 102, 103, 104, 105, 106, 107, 108, 109, 110, 111, 112, 113, 114, 115, 116, 117, 118, 119, 120, 121, 122])) (G_MOST_LETTERS : GlD K mg "MOST_LETTERS" (.int 8)) : Cal P w K mg base 1 "is_name" f_is_name :=
  Cal.mk' F hm hb sc_is_name (by decide) fun cdv A outer s H E hr =>
    (sds_one (sd_retV (ev_and (ev_isi .str (gl_ (by kernel_rfl)) z_isinstance (gl_ (by kernel_rfl)) z_str (eh_s rfl (.inl (by kernel_rfl)))) (ev_and (ev_chain op_le f_le op_le f_le (eh_v ev_int) (eh_v (ev_cb f_len (pe_callB cr_lenA (gl_ (by kernel_rfl)) z_len (by decide +kernel) (eah_cons (eh_s rfl (.inl (by kernel_rfl))) eah_nil)))) (eh_v (ev_gl G_MOST_LETTERS (gl_ (by kernel_rfl))))) (ev_one (ev_cmp (op_eqA hr.units) (Op2B.toV f_eq) (eh_v (ev_bm (t := .str) f_strip (pe_bm PySem.F.plainAttrs_str PySem.F.slot_str_strip PySem.F.type_str_strip mt_stripChars (eh_s rfl (.inl (by kernel_rfl))) (eah_cons (eh_v (ev_gl G_LETTERS (gl_ (by kernel_rfl)))) eah_nil)))) (eh_v (ev_str (by rfl))) (nomark _)))))))
theorem c_label_in {fa : Addr} {fd : FuncData} (F : Fun K "label_in" "label_in" s_label_in fa fd) (hm : mg "label_in" = some (.ref fa)) (hb : Binds K fd ["words"] []) (z_len : mg "len" = none) (C_is_name : Cal P w K mg base 1 "is_name" f_is_name) : Cal P w K mg base 2 "label_in" f_label_in :=
  Cal.mk' F hm hb sc_label_in (by decide) fun cdv A outer s H E hr =>
    (sds_cons (sd_if (eb_w (ew_and (eb_cmp (op_eqA hr.units) f_eq (eh_v (ev_cb f_len (pe_callB cr_lenA (gl_ (by kernel_rfl)) z_len (by decide +kernel) (eah_cons (eh_s rfl (.inl (by kernel_rfl))) eah_nil)))) (eh_v ev_int) (nomark _)) (ew_and (eb_val (ev_bm (t := .str) f_ew (pe_bm PySem.F.plainAttrs_str PySem.F.slot_str_endswith PySem.F.type_str_endswith mt_endswith (eh_v (ev_ix (ix_A (hu1 hr)) f_idx (eh_s rfl (.inl (by kernel_rfl))) (eh_v ev_int) (fun _ _ => rfl))) (eah_cons (eh_v (ev_str (by rfl))) eah_nil)))) (ew_and1 (eb_val (ev_fz (et_call (C_is_name.mono (by decide)) hr (gl_ (by kernel_rfl)) (takes_of rfl rfl rfl rfl) (eaa_v (ev_cut (eh_v (ev_ix (ix_A (hu1 hr)) f_idx (eh_s rfl (.inl (by kernel_rfl))) (eh_v ev_int) (fun _ _ => rfl))) eo_n (eo_s (ev_un un_neg f_neg (eh_v ev_int)))) eaa_nil)))))))) (sds_one (sd_retV (ev_cut (eh_v (ev_ix (ix_A (hu1 hr)) f_idx (eh_s rfl (.inl (by kernel_rfl))) (eh_v ev_int) (fun _ _ => rfl))) eo_n (eo_s (ev_un un_neg f_neg (eh_v ev_int)))))) sds_nil)
    (sds_one (sd_retV ev_non)))
theorem c_labels_in {fa : Addr} {fd : FuncData} (F : Fun K "labels_in" "labels_in" s_labels_in fa fd) (hm : mg "labels_in" = some (.ref fa)) (hb : Binds K fd ["text"] [])  (C_label_in : Cal P w K mg base 2 "label_in" f_label_in) : Cal P w K mg base 3 "labels_in" f_labels_in :=
  Cal.mk' F hm hb sc_labels_in (by decide) fun cdv A outer s H E hr =>
    (sds_cons (sd_set (ps_set sc_labels_in.nd rfl (.inl (by kernel_rfl)) et_dnew) (by decide))
    (sds_cons (sd_for (sl := [2]) (passes_of (K := _) (E₁ := _) rfl) rfl (ei_seq (ev_fz (et_bm (t := .str) f_split (pe_bm PySem.F.plainAttrs_str PySem.F.slot_str_split PySem.F.type_str_split mt_split (eh_s rfl (.inl (by kernel_rfl))) (eah_cons (eh_v (ev_str (by rfl))) eah_nil))))) (gd_name sc_labels_in.nd rfl (.inl (by kernel_rfl)) (by decide)) (sds_wipe [2, 3] (sds_cons (sd_setV (ps_set sc_labels_in.nd rfl (.inl (by kernel_rfl)) (ev_fz (et_call (C_label_in.mono (by decide)) hr (gl_ (by kernel_rfl)) (takes_of rfl rfl rfl rfl) (eaa_v (ev_fz (et_bm (t := .str) f_split (pe_bm PySem.F.plainAttrs_str PySem.F.slot_str_split PySem.F.type_str_split mt_split (eh_s rfl (.inl (by kernel_rfl))) (eah_cons (eh_v (ev_str (by rfl))) eah_nil)))) eaa_nil)))) (by decide))
    (sds_one (sd_if (eb_cmp op_notN f_notN (eh_s rfl (.inl (by kernel_rfl))) (eh_v ev_non) (nomark _)) (sds_one (sd_asg (sl := []) ev_bl (gd_dx (hu1 hr) rfl (.inl (by kernel_rfl)) (ev_var rfl (.inl (by kernel_rfl)))) (by decide))) sds_nil)))) (by decide))
    (sds_one (sd_ret (et_mv rfl (.inl (by kernel_rfl)))))))
theorem c_is_number_told {fa : Addr} {fd : FuncData} (F : Fun K "is_number_told" "is_number_told" s_is_number_told fa fd) (hm : mg "is_number_told" = some (.ref fa)) (hb : Binds K fd ["word"] []) (z_int : mg "int" = none) (z_len : mg "len" = none) (G_FIGURES : GlD K mg "FIGURES" (.str [48, 49, 50, 51, 52, 53, 54, 55, 56, 57])) (G_MOST_NUMBER : GlD K mg "MOST_NUMBER" (.int 255)) : Cal P w K mg base 1 "is_number_told" f_is_number_told :=
  Cal.mk' F hm hb sc_is_number_told (by decide) fun cdv A outer s H E hr =>
    (sds_cons (sd_if (eb_w (ew_or (eb_not (eb_chain op_le f_le op_le f_le (eh_v ev_int) (eh_v (ev_cb f_len (pe_callB cr_lenA (gl_ (by kernel_rfl)) z_len (by decide +kernel) (eah_cons (eh_s rfl (.inl (by kernel_rfl))) eah_nil)))) (eh_v ev_int))) (ew_or1 (eb_cmp (op_neA hr.units) f_ne (eh_v (ev_bm (t := .str) f_strip (pe_bm PySem.F.plainAttrs_str PySem.F.slot_str_strip PySem.F.type_str_strip mt_stripChars (eh_s rfl (.inl (by kernel_rfl))) (eah_cons (eh_v (ev_gl G_FIGURES (gl_ (by kernel_rfl)))) eah_nil)))) (eh_v (ev_str (by rfl))) (nomark _))))) (sds_one (sd_retV ev_bl)) sds_nil)
    (sds_one (sd_retV (ev_and (ev_or (ev_cmp (op_eqA hr.units) (Op2B.toV f_eq) (eh_s rfl (.inl (by kernel_rfl))) (eh_v (ev_str (by rfl))) (nomark _)) (ev_one (ev_not (ev_bm (t := .str) f_sw (pe_bm PySem.F.plainAttrs_str PySem.F.slot_str_startswith PySem.F.type_str_startswith mt_startswith (eh_s rfl (.inl (by kernel_rfl))) (eah_cons (eh_v (ev_str (by rfl))) eah_nil)))))) (ev_one (ev_cmp op_le (Op2B.toV f_le) (eh_v (ev_cb f_intS (pe_callTy call_int_str (gl_ (by kernel_rfl)) z_int (by decide +kernel) (eah_cons (eh_s rfl (.inl (by kernel_rfl))) eah_nil)))) (eh_v (ev_gl G_MOST_NUMBER (gl_ (by kernel_rfl)))) (nomark _)))))))
theorem c_row_with_spot {fa : Addr} {fd : FuncData} (F : Fun K "row_with_spot" "row_with_spot" s_row_with_spot fa fd) (hm : mg "row_with_spot" = some (.ref fa)) (hb : Binds K fd ["words"] []) (z_int : mg "int" = none) (z_len : mg "len" = none) (C_is_number_told : Cal P w K mg base 1 "is_number_told" f_is_number_told) (C_is_name : Cal P w K mg base 1 "is_name" f_is_name) (G_SPOTS : GlD K mg "SPOTS" (.tup [.str [97], .str [98], .str [99], .str [100]])) : Cal P w K mg base 2 "row_with_spot" f_row_with_spot :=
  Cal.mk' F hm hb sc_row_with_spot (by decide) fun cdv A outer s H E hr =>
    (sds_cons (sd_par rfl sc_row_with_spot.nd rfl rfl (by decide) (by kernel_rfl) (by kernel_rfl) (et_sh (ev_ix (ix_A (hu1 hr)) f_idx (eh_s rfl (.inl (by kernel_rfl))) (eh_v ev_int) (fun _ _ => rfl))) (et_sh (ev_ix (ix_A (hu1 hr)) f_idx (eh_s rfl (.inl (by kernel_rfl))) (eh_v ev_int) (fun _ _ => rfl))) (by decide) (by decide) (by kernel_rfl))
    (sds_cons (sd_if (eb_cmp (op_notInA (hu65 hr)) f_notIn (eh_s rfl (.inl (by kernel_rfl))) (eh_v (ev_gl G_SPOTS (gl_ (by kernel_rfl)))) (by rfl)) (sds_one (sd_retV ev_non)) sds_nil)
    (sds_cons (sd_if (eb_w (ew_and (eb_cmp (op_eqA hr.units) f_eq (eh_v (ev_cb f_len (pe_callB cr_lenA (gl_ (by kernel_rfl)) z_len (by decide +kernel) (eah_cons (eh_s rfl (.inl (by kernel_rfl))) eah_nil)))) (eh_v ev_int) (nomark _)) (ew_and1 (eb_cmp (op_inA (hu65 hr)) f_in (eh_s rfl (.inl (by kernel_rfl))) (eh_v (ev_tup (eav_cons (ev_str (by rfl)) (eav_cons (ev_str (by rfl)) eav_nil)))) (by rfl))))) (sds_one (sd_retV (ev_tup (eav_cons (ev_var rfl (.inl (by kernel_rfl))) (eav_cons (ev_var rfl (.inl (by kernel_rfl))) eav_nil))))) sds_nil)
    (sds_cons (sd_if (eb_w (ew_and (eb_cmp (op_eqA hr.units) f_eq (eh_v (ev_cb f_len (pe_callB cr_lenA (gl_ (by kernel_rfl)) z_len (by decide +kernel) (eah_cons (eh_s rfl (.inl (by kernel_rfl))) eah_nil)))) (eh_v ev_int) (nomark _)) (ew_and (eb_cmp (op_eqA hr.units) f_eq (eh_s rfl (.inl (by kernel_rfl))) (eh_v (ev_str (by rfl))) (nomark _)) (ew_and1 (eb_val (ev_fz (et_call (C_is_number_told.mono (by decide)) hr (gl_ (by kernel_rfl)) (takes_of rfl rfl rfl rfl) (eaa_v (ev_ix (ix_A (hu1 hr)) f_idx (eh_s rfl (.inl (by kernel_rfl))) (eh_v ev_int) (fun _ _ => rfl)) eaa_nil)))))))) (sds_one (sd_retV (ev_tup (eav_cons (ev_var rfl (.inl (by kernel_rfl))) (eav_cons (ev_var rfl (.inl (by kernel_rfl))) (eav_cons (ev_cb f_intS (pe_callTy call_int_str (gl_ (by kernel_rfl)) z_int (by decide +kernel) (eah_cons (eh_v (ev_ix (ix_A (hu1 hr)) f_idx (eh_s rfl (.inl (by kernel_rfl))) (eh_v ev_int) (fun _ _ => rfl))) eah_nil))) eav_nil)))))) sds_nil)
    (sds_cons (sd_if (eb_w (ew_and (eb_cmp (op_eqA hr.units) f_eq (eh_v (ev_cb f_len (pe_callB cr_lenA (gl_ (by kernel_rfl)) z_len (by decide +kernel) (eah_cons (eh_s rfl (.inl (by kernel_rfl))) eah_nil)))) (eh_v ev_int) (nomark _)) (ew_and (eb_cmp (op_inA (hu65 hr)) f_in (eh_s rfl (.inl (by kernel_rfl))) (eh_v (ev_tup (eav_cons (ev_str (by rfl)) (eav_cons (ev_str (by rfl)) eav_nil)))) (by rfl)) (ew_and1 (eb_cmp (op_inA (hu65 hr)) f_in (eh_v (ev_ix (ix_A (hu1 hr)) f_idx (eh_s rfl (.inl (by kernel_rfl))) (eh_v ev_int) (fun _ _ => rfl))) (eh_v (ev_gl G_SPOTS (gl_ (by kernel_rfl)))) (by rfl)))))) (sds_one (sd_retV (ev_tup (eav_cons (ev_var rfl (.inl (by kernel_rfl))) (eav_cons (ev_var rfl (.inl (by kernel_rfl))) (eav_cons (ev_ix (ix_A (hu1 hr)) f_idx (eh_s rfl (.inl (by kernel_rfl))) (eh_v ev_int) (fun _ _ => rfl)) eav_nil)))))) sds_nil)
    (sds_cons (sd_if (eb_w (ew_and (eb_cmp (op_eqA hr.units) f_eq (eh_v (ev_cb f_len (pe_callB cr_lenA (gl_ (by kernel_rfl)) z_len (by decide +kernel) (eah_cons (eh_s rfl (.inl (by kernel_rfl))) eah_nil)))) (eh_v ev_int) (nomark _)) (ew_and (eb_cmp (op_eqA hr.units) f_eq (eh_s rfl (.inl (by kernel_rfl))) (eh_v (ev_str (by rfl))) (nomark _)) (ew_and1 (eb_val (ev_fz (et_call (C_is_name.mono (by decide)) hr (gl_ (by kernel_rfl)) (takes_of rfl rfl rfl rfl) (eaa_v (ev_ix (ix_A (hu1 hr)) f_idx (eh_s rfl (.inl (by kernel_rfl))) (eh_v ev_int) (fun _ _ => rfl)) eaa_nil)))))))) (sds_one (sd_retV (ev_tup (eav_cons (ev_var rfl (.inl (by kernel_rfl))) (eav_cons (ev_var rfl (.inl (by kernel_rfl))) (eav_cons (ev_ix (ix_A (hu1 hr)) f_idx (eh_s rfl (.inl (by kernel_rfl))) (eh_v ev_int) (fun _ _ => rfl)) eav_nil)))))) sds_nil)
    (sds_one (sd_retV ev_non))))))))
theorem c_row_of {fa : Addr} {fd : FuncData} (F : Fun K "row_of" "row_of" s_row_of fa fd) (hm : mg "row_of" = some (.ref fa)) (hb : Binds K fd ["words"] []) (z_len : mg "len" = none) (C_row_with_spot : Cal P w K mg base 2 "row_with_spot" f_row_with_spot) (C_is_name : Cal P w K mg base 1 "is_name" f_is_name) : Cal P w K mg base 3 "row_of" f_row_of :=
  Cal.mk' F hm hb sc_row_of (by decide) fun cdv A outer s H E hr =>
    (sds_cons (sd_if (eb_cmp (op_eqA hr.units) f_eq (eh_s rfl (.inl (by kernel_rfl))) (eh_v (ev_fz (et_lst (eav_cons (ev_str (by rfl)) eav_nil)))) (nomark _)) (sds_one (sd_retV (ev_tup (eav_cons (ev_str (by rfl)) eav_nil)))) sds_nil)
    (sds_cons (sd_if (eb_cmp op_ltA f_lt (eh_v (ev_cb f_len (pe_callB cr_lenA (gl_ (by kernel_rfl)) z_len (by decide +kernel) (eah_cons (eh_s rfl (.inl (by kernel_rfl))) eah_nil)))) (eh_v ev_int) (nomark _)) (sds_one (sd_retV ev_non)) sds_nil)
    (sds_cons (sd_if (eb_cmp (op_eqA hr.units) f_eq (eh_v (ev_ix (ix_A (hu1 hr)) f_idx (eh_s rfl (.inl (by kernel_rfl))) (eh_v ev_int) (fun _ _ => rfl))) (eh_v (ev_str (by rfl))) (nomark _)) (sds_one (sd_retV (ev_if (eb_w (ew_and (eb_cmp (op_eqA hr.units) f_eq (eh_v (ev_cb f_len (pe_callB cr_lenA (gl_ (by kernel_rfl)) z_len (by decide +kernel) (eah_cons (eh_s rfl (.inl (by kernel_rfl))) eah_nil)))) (eh_v ev_int) (nomark _)) (ew_and1 (eb_val (ev_fz (et_call (C_is_name.mono (by decide)) hr (gl_ (by kernel_rfl)) (takes_of rfl rfl rfl rfl) (eaa_v (ev_ix (ix_A (hu1 hr)) f_idx (eh_s rfl (.inl (by kernel_rfl))) (eh_v ev_int) (fun _ _ => rfl)) eaa_nil))))))) (ev_tup (eav_cons (ev_str (by rfl)) (eav_cons (ev_ix (ix_A (hu1 hr)) f_idx (eh_s rfl (.inl (by kernel_rfl))) (eh_v ev_int) (fun _ _ => rfl)) eav_nil))) ev_non))) sds_nil)
    (sds_one (sd_ret (et_call (C_row_with_spot.mono (by decide)) hr (gl_ (by kernel_rfl)) (takes_of rfl rfl rfl rfl) (eaa_v (ev_var rfl (.inl (by kernel_rfl))) eaa_nil)))))))
theorem c_Reading__take_row {c fa : Addr} {fd : FuncData} (F : Fun K "take_row" "Reading.take_row" s_Reading__take_row fa fd) (hT : Top K [82, 101, 97, 100, 105, 110, 103] c) (hl : Cls K c) (hk : Meth K c (sT [116, 97, 107, 101, 95, 114, 111, 119]) fa) (hb : Binds K fd ["self", "words"] []) (z_len : mg "len" = none) (C_label_in : Cal P w K mg base 2 "label_in" f_label_in) (C_row_of : Cal P w K mg base 3 "row_of" f_row_of) (I_Reading : ClsI K mg [82, 101, 97, 100, 105, 110, 103] [[107, 110, 111, 119, 110], [114, 111, 119, 115], [112, 108, 97, 99, 101, 115]]) (G_JUMPS : GlD K mg "JUMPS" (.tup [.str [106, 117, 109, 112], .str [122, 101, 114, 111]])) (G_MOST_ROWS : GlD K mg "MOST_ROWS" (.int 200)) : CalM P w K mg base 4 [82, 101, 97, 100, 105, 110, 103] [116, 97, 107, 101, 95, 114, 111, 119] f_Reading__take_row :=
  ⟨c, fa, fd, _, hT, hl, hk, fn_ok F sc_Reading__take_row (by decide) fun cdv A outer s H E hr =>
    (sds_cons (sd_setV (ps_set sc_Reading__take_row.nd rfl (.inl (by kernel_rfl)) (ev_fz (et_call (C_label_in.mono (by decide)) hr (gl_ (by kernel_rfl)) (takes_of rfl rfl rfl rfl) (eaa_v (ev_var rfl (.inl (by kernel_rfl))) eaa_nil)))) (by decide))
    (sds_cons (sd_if (eb_cmp op_notN f_notN (eh_s rfl (.inl (by kernel_rfl))) (eh_v ev_non) (nomark _)) (sds_cons (sd_if (eb_lend3 (eb_cmp (op_inA (hu65 hr)) f_in (eh_s rfl (.inl (by kernel_rfl))) (eh_v (ev_fldO I_Reading (by decide) (by rfl) (eh_s rfl (.inl (by kernel_rfl))))) (by rfl))) (sds_one (sd_retV ev_bl)) sds_nil)
    (sds_cons (sd_asg (sl := []) (ev_lend3 (ev_cb f_len (pe_callB cr_lenA (gl_ (by kernel_rfl)) z_len (by decide +kernel) (eah_cons (eh_v (ev_fldO I_Reading (by decide) (by rfl) (eh_s rfl (.inl (by kernel_rfl))))) eah_nil)))) (gd_dxF (hu1 hr) I_Reading (by decide) (by rfl) rfl (.inl (by kernel_rfl)) (ev_var rfl (.inl (by kernel_rfl)))) (by decide))
    (sds_one (sd_retV ev_bl)))) sds_nil)
    (sds_cons (sd_setV (ps_set sc_Reading__take_row.nd rfl (.inl (by kernel_rfl)) (ev_fz (et_call (C_row_of.mono (by decide)) hr (gl_ (by kernel_rfl)) (takes_of rfl rfl rfl rfl) (eaa_v (ev_var rfl (.inl (by kernel_rfl))) eaa_nil)))) (by decide))
    (sds_cons (sd_if (eb_lend3 (eb_w (ew_or (eb_cmp op_isN f_isN (eh_s rfl (.inl (by kernel_rfl))) (eh_v ev_non) (nomark _)) (ew_or1 (eb_cmp (op_eqA hr.units) f_eq (eh_v (ev_cb f_len (pe_callB cr_lenA (gl_ (by kernel_rfl)) z_len (by decide +kernel) (eah_cons (eh_v (ev_fldO I_Reading (by decide) (by rfl) (eh_s rfl (.inl (by kernel_rfl))))) eah_nil)))) (eh_v (ev_gl G_MOST_ROWS (gl_ (by kernel_rfl)))) (nomark _)))))) (sds_one (sd_retV ev_bl)) sds_nil)
    (sds_cons (sd_if (eb_w (ew_and (eb_cmp (op_inA (hu65 hr)) f_in (eh_v (ev_ix (ix_A (hu1 hr)) f_idx (eh_s rfl (.inl (by kernel_rfl))) (eh_v ev_int) (fun _ _ => rfl))) (eh_v (ev_gl G_JUMPS (gl_ (by kernel_rfl)))) (by rfl)) (ew_and1 (eb_cmp (op_notInA (hu65 hr)) f_notIn (eh_v (ev_ix (ix_A (hu1 hr)) f_idx (eh_s rfl (.inl (by kernel_rfl))) (eh_v (ev_un un_neg f_neg (eh_v ev_int))) (fun _ _ => rfl))) (eh_v (ev_fldI I_Reading (by decide) (by rfl) rfl (.inl (by kernel_rfl)))) (by rfl))))) (sds_one (sd_retV ev_bl)) sds_nil)
    (sds_cons (sd_expr (ev_mutF I_Reading (by decide) (by rfl) m_append (pe_bm PySem.F.plainAttrs_list PySem.F.slot_list_append PySem.F.type_list_append mt_append (pe_fld (pe_var rfl (.inl (by kernel_rfl))) (by rfl)) (eav_cons (ev_var rfl (.inl (by kernel_rfl))) eav_nil))))
    (sds_one (sd_retV ev_bl)))))))), hb⟩
theorem c_read_program {fa : Addr} {fd : FuncData} (F : Fun K "read_program" "read_program" s_read_program fa fd) (hm : mg "read_program" = some (.ref fa)) (hb : Binds K fd ["text"] []) (z_enumerate : mg "enumerate" = none) (C_Reading____init__ : Ini P w K mg base 1 [82, 101, 97, 100, 105, 110, 103] f_Reading____init__) (C_Reading__program : CalM P w K mg base 1 [82, 101, 97, 100, 105, 110, 103] [112, 114, 111, 103, 114, 97, 109] f_Reading__program) (C_labels_in : Cal P w K mg base 3 "labels_in" f_labels_in) (C_Reading__take_row : CalM P w K mg base 4 [82, 101, 97, 100, 105, 110, 103] [116, 97, 107, 101, 95, 114, 111, 119] f_Reading__take_row) (I_Reading : ClsI K mg [82, 101, 97, 100, 105, 110, 103] [[107, 110, 111, 119, 110], [114, 111, 119, 115], [112, 108, 97, 99, 101, 115]]) (M_BadRow : MkX P w K mg base [66, 97, 100, 82, 111, 119] [114, 111, 119]) : Cal P w K mg base 5 "read_program" f_read_program :=
  Cal.mk' F hm hb sc_read_program (by decide) fun cdv A outer s H E hr =>
    (sds_cons (sd_set (ps_set sc_read_program.nd rfl (.inl (by kernel_rfl)) (et_new (C_Reading____init__.mono (by decide)) (by rfl) hr (gl_ (by kernel_rfl)) (takes_of rfl rfl rfl rfl) (eav_cons (ev_fz (et_call (C_labels_in.mono (by decide)) hr (gl_ (by kernel_rfl)) (takes_of rfl rfl rfl rfl) (eaa_v (ev_var rfl (.inl (by kernel_rfl))) eaa_nil))) eav_nil))) (by decide))
    (sds_cons (sd_for (sl := [2, 3]) (passes_of (K := _) (E₁ := _) rfl) rfl (ei_arg (pi_enum (gl_ (by kernel_rfl)) z_enumerate (eav_cons (ev_fz (et_bm (t := .str) f_split (pe_bm PySem.F.plainAttrs_str PySem.F.slot_str_split PySem.F.type_str_split mt_split (eh_s rfl (.inl (by kernel_rfl))) (eah_cons (eh_v (ev_str (by rfl))) eah_nil)))) eav_nil)) ht_enum) (gd_tup rfl (gds_cons (gd_name sc_read_program.nd rfl (.inl (by kernel_rfl)) (by decide)) (gds_cons (gd_name sc_read_program.nd rfl (.inl (by kernel_rfl)) (by decide)) gds_nil)) rfl) (sds_wipe [2, 3] (sds_one (sd_if (eb_w (ew_and (eb_cmp (op_neA hr.units) f_ne (eh_s rfl (.inl (by kernel_rfl))) (eh_v (ev_str (by rfl))) (nomark _)) (ew_and1 (eb_not (eb_val (ev_fz (et_meth (C_Reading__take_row.mono (by decide)) (by rfl) hr (takes_of rfl rfl rfl rfl) rfl (.inl (by kernel_rfl)) (eaa_v (ev_fz (et_bm (t := .str) f_split (pe_bm PySem.F.plainAttrs_str PySem.F.slot_str_split PySem.F.type_str_split mt_split (eh_s rfl (.inl (by kernel_rfl))) (eah_cons (eh_v (ev_str (by rfl))) eah_nil)))) eaa_nil)))))))) (sds_one (sd_raise1 M_BadRow (by rfl) (hr.mono (by decide)) rfl (takes_of rfl rfl rfl rfl) (gl_ (by kernel_rfl)) (ev_var rfl (.inl (by kernel_rfl))))) sds_nil))) (by decide))
    (sds_one (sd_ret (et_meth0 (C_Reading__program.mono (by decide)) (by rfl) hr (takes_of rfl rfl rfl rfl) rfl (.inl (by kernel_rfl)))))))
theorem c__law_signs {fa : Addr} {fd : FuncData} (F : Fun K "_law_signs" "_law_signs" s__law_signs fa fd) (hm : mg "_law_signs" = some (.ref fa)) (hb : Binds K fd [] [])   : Cal P w K mg base 1 "_law_signs" f__law_signs :=
  Cal.mk' F hm hb sc__law_signs (by decide) fun cdv A outer s H E hr =>
    (sds_one (sd_retV (ev_str (by rfl))))
theorem c__law_spelt {fa : Addr} {fd : FuncData} (F : Fun K "_law_spelt" "_law_spelt" s__law_spelt fa fd) (hm : mg "_law_spelt" = some (.ref fa)) (hb : Binds K fd ["_law_state", "_law_text"] []) (z_len : mg "len" = none) (C__law_take : Cal P w K mg base 1 "_law_take" f__law_take) (C__law_signs : Cal P w K mg base 1 "_law_signs" f__law_signs) : Cal P w K mg base 2 "_law_spelt" f__law_spelt :=
  Cal.mk' F hm hb sc__law_spelt (by decide) fun cdv A outer s H E hr =>
    (sds_cons (sd_par rfl sc__law_spelt.nd rfl rfl (by decide) (by kernel_rfl) (by kernel_rfl) (et_sh (ev_fz (et_call (C__law_take.mono (by decide)) hr (gl_ (by kernel_rfl)) (takes_of rfl rfl rfl rfl) (eaa_io rfl (.inl (by kernel_rfl)) (eaa_v ev_int eaa_nil))))) (et_sh (ev_fz (et_call (C__law_take.mono (by decide)) hr (gl_ (by kernel_rfl)) (takes_of rfl rfl rfl rfl) (eaa_io rfl (.inl (by kernel_rfl)) (eaa_v ev_int eaa_nil))))) (by decide) (by decide) (by kernel_rfl))
    (sds_cons (sd_setV (ps_set sc__law_spelt.nd rfl (.inl (by kernel_rfl)) (ev_ix (ix_A (hu1 hr)) f_idx (eh_v (ev_fz (et_lst (eav_cons (ev_fz (et_call0 (C__law_signs.mono (by decide)) hr (gl_ (by kernel_rfl)) (takes_of rfl rfl rfl rfl))) (eav_cons (ev_str (by rfl)) eav_nil))))) (eh_s rfl (.inl (by kernel_rfl))) (fun _ _ => rfl))) (by decide))
    (sds_cons (sd_setV (ps_set sc__law_spelt.nd rfl (.inl (by kernel_rfl)) (ev_ix (ix_A (hu1 hr)) f_idx (eh_s rfl (.inl (by kernel_rfl))) (eh_v (ev_fz (et_call (C__law_take.mono (by decide)) hr (gl_ (by kernel_rfl)) (takes_of rfl rfl rfl rfl) (eaa_io rfl (.inl (by kernel_rfl)) (eaa_v (ev_cb f_len (pe_callB cr_lenA (gl_ (by kernel_rfl)) z_len (by decide +kernel) (eah_cons (eh_s rfl (.inl (by kernel_rfl))) eah_nil))) eaa_nil))))) (fun _ _ => rfl))) (by decide))
    (sds_cons (sd_setV (ps_set sc__law_spelt.nd rfl (.inl (by kernel_rfl)) (ev_fz (et_call (C__law_take.mono (by decide)) hr (gl_ (by kernel_rfl)) (takes_of rfl rfl rfl rfl) (eaa_io rfl (.inl (by kernel_rfl)) (eaa_v (ev_op op_addA f_add (eh_v (ev_cb f_len (pe_callB cr_lenA (gl_ (by kernel_rfl)) z_len (by decide +kernel) (eah_cons (eh_s rfl (.inl (by kernel_rfl))) eah_nil)))) (eh_v ev_int)) eaa_nil))))) (by decide))
    (sds_cons (sd_par rfl sc__law_spelt.nd rfl rfl (by decide) (by kernel_rfl) (by kernel_rfl) (et_sh (ev_cut (eh_s rfl (.inl (by kernel_rfl))) eo_n (eo_s (ev_var rfl (.inl (by kernel_rfl)))))) (et_sh (ev_cut (eh_s rfl (.inl (by kernel_rfl))) (eo_s (ev_var rfl (.inl (by kernel_rfl)))) (eo_s (ev_op op_addA f_add (eh_s rfl (.inl (by kernel_rfl))) (eh_v ev_int))))) (by decide) (by decide) (by kernel_rfl))
    (sds_cons (sd_setV (ps_set sc__law_spelt.nd rfl (.inl (by kernel_rfl)) (ev_cut (eh_s rfl (.inl (by kernel_rfl))) (eo_s (ev_op op_addA f_add (eh_s rfl (.inl (by kernel_rfl))) (eh_v ev_int))) eo_n)) (by decide))
    (sds_cons (sd_set (ps_set sc__law_spelt.nd rfl (.inl (by kernel_rfl)) (et_lst (eav_cons (ev_op op_addA f_add (eh_v (ev_op op_addA f_add (eh_v (ev_op op_addA f_add (eh_s rfl (.inl (by kernel_rfl))) (eh_s rfl (.inl (by kernel_rfl))))) (eh_s rfl (.inl (by kernel_rfl))))) (eh_s rfl (.inl (by kernel_rfl)))) (eav_cons (ev_op op_addA f_add (eh_v (ev_op op_addA f_add (eh_s rfl (.inl (by kernel_rfl))) (eh_s rfl (.inl (by kernel_rfl))))) (eh_s rfl (.inl (by kernel_rfl)))) (eav_cons (ev_op op_addA f_add (eh_s rfl (.inl (by kernel_rfl))) (eh_s rfl (.inl (by kernel_rfl)))) (eav_cons (ev_op op_addA f_add (eh_v (ev_op op_addA f_add (eh_v (ev_op op_addA f_add (eh_s rfl (.inl (by kernel_rfl))) (eh_s rfl (.inl (by kernel_rfl))))) (eh_s rfl (.inl (by kernel_rfl))))) (eh_s rfl (.inl (by kernel_rfl)))) eav_nil)))))) (by decide))
    (sds_cons (sd_expr (ev_mut m_append (pe_bm PySem.F.plainAttrs_list PySem.F.slot_list_append PySem.F.type_list_append mt_append (pe_var rfl (.inl (by kernel_rfl))) (eav_cons (ev_op op_addA f_add (eh_v (ev_op op_addA f_add (eh_v (ev_op op_addA f_add (eh_s rfl (.inl (by kernel_rfl))) (eh_v (ev_cut (eh_s rfl (.inl (by kernel_rfl))) eo_n (eo_s ev_int))))) (eh_s rfl (.inl (by kernel_rfl))))) (eh_v (ev_cut (eh_s rfl (.inl (by kernel_rfl))) (eo_s ev_int) eo_n))) eav_nil))))
    (sds_cons (sd_set (ps_set sc__law_spelt.nd rfl (.inl (by kernel_rfl)) (et_op op_addA l_add (eh_s rfl (.inl (by kernel_rfl))) (eh_v (ev_fz (et_lst (eav_cons (ev_var rfl (.inl (by kernel_rfl))) (eav_cons (ev_op op_addA f_add (eh_s rfl (.inl (by kernel_rfl))) (eh_s rfl (.inl (by kernel_rfl)))) (eav_cons (ev_op op_addA f_add (eh_v (ev_op op_addA f_add (eh_v (ev_op op_addA f_add (eh_s rfl (.inl (by kernel_rfl))) (eh_v (ev_op op_repS f_repS (eh_s rfl (.inl (by kernel_rfl))) (eh_v ev_int))))) (eh_s rfl (.inl (by kernel_rfl))))) (eh_s rfl (.inl (by kernel_rfl)))) eav_nil)))))))) (by decide))
    (sds_one (sd_retV (ev_ix (ix_A (hu1 hr)) f_idx (eh_s rfl (.inl (by kernel_rfl))) (eh_s rfl (.inl (by kernel_rfl))) (fun _ _ => rfl)))))))))))))
theorem c__law_line_spelt {fa : Addr} {fd : FuncData} (F : Fun K "_law_line_spelt" "_law_line_spelt" s__law_line_spelt fa fd) (hm : mg "_law_line_spelt" = some (.ref fa)) (hb : Binds K fd ["_law_state", "_law_text"] []) (z_len : mg "len" = none) (C__law_take : Cal P w K mg base 1 "_law_take" f__law_take) : Cal P w K mg base 2 "_law_line_spelt" f__law_line_spelt :=
  Cal.mk' F hm hb sc__law_line_spelt (by decide) fun cdv A outer s H E hr =>
    (sds_cons (sd_setV (ps_set sc__law_line_spelt.nd rfl (.inl (by kernel_rfl)) (ev_fz (et_call (C__law_take.mono (by decide)) hr (gl_ (by kernel_rfl)) (takes_of rfl rfl rfl rfl) (eaa_io rfl (.inl (by kernel_rfl)) (eaa_v ev_int eaa_nil))))) (by decide))
    (sds_cons (sd_setV (ps_set sc__law_line_spelt.nd rfl (.inl (by kernel_rfl)) (ev_fz (et_lst (eav_cons (ev_str (by rfl)) (eav_cons (ev_str (by rfl)) (eav_cons (ev_str (by rfl)) (eav_cons (ev_str (by rfl)) (eav_cons (ev_str (by rfl)) (eav_cons (ev_str (by rfl)) (eav_cons (ev_str (by rfl)) (eav_cons (ev_str (by rfl)) (eav_cons (ev_str (by rfl)) (eav_cons (ev_str (by rfl)) eav_nil))))))))))))) (by decide))
    (sds_cons (sd_setV (ps_set sc__law_line_spelt.nd rfl (.inl (by kernel_rfl)) (ev_ix (ix_A (hu1 hr)) f_idx (eh_s rfl (.inl (by kernel_rfl))) (eh_v (ev_fz (et_call (C__law_take.mono (by decide)) hr (gl_ (by kernel_rfl)) (takes_of rfl rfl rfl rfl) (eaa_io rfl (.inl (by kernel_rfl)) (eaa_v ev_int eaa_nil))))) (fun _ _ => rfl))) (by decide))
    (sds_cons (sd_setV (ps_set sc__law_line_spelt.nd rfl (.inl (by kernel_rfl)) (ev_fz (et_bm (t := .str) f_split (pe_bm PySem.F.plainAttrs_str PySem.F.slot_str_split PySem.F.type_str_split mt_split (eh_s rfl (.inl (by kernel_rfl))) (eah_cons (eh_v (ev_str (by rfl))) eah_nil))))) (by decide))
    (sds_cons (sd_setV (ps_set sc__law_line_spelt.nd rfl (.inl (by kernel_rfl)) (ev_fz (et_call (C__law_take.mono (by decide)) hr (gl_ (by kernel_rfl)) (takes_of rfl rfl rfl rfl) (eaa_io rfl (.inl (by kernel_rfl)) (eaa_v (ev_cb f_len (pe_callB cr_lenA (gl_ (by kernel_rfl)) z_len (by decide +kernel) (eah_cons (eh_s rfl (.inl (by kernel_rfl))) eah_nil))) eaa_nil))))) (by decide))
    (sds_cons (sd_par3 rfl sc__law_line_spelt.nd rfl rfl rfl (by decide) (by decide) (by decide) (by kernel_rfl) (by kernel_rfl) (by kernel_rfl) (epa_cons (et_sh (ev_fz (et_cut (eh_s rfl (.inl (by kernel_rfl))) eo_n (eo_s (ev_var rfl (.inl (by kernel_rfl))))))) (epa_cons (et_sh (ev_fz (et_cut (eh_s rfl (.inl (by kernel_rfl))) (eo_s (ev_var rfl (.inl (by kernel_rfl)))) (eo_s (ev_op op_addA f_add (eh_s rfl (.inl (by kernel_rfl))) (eh_v ev_int)))))) (epa_cons (et_sh (ev_fz (et_cut (eh_s rfl (.inl (by kernel_rfl))) (eo_s (ev_op op_addA f_add (eh_s rfl (.inl (by kernel_rfl))) (eh_v ev_int))) eo_n))) epa_nil))) (by decide) (by kernel_rfl))
    (sds_cons (sd_setV (ps_set sc__law_line_spelt.nd rfl (.inl (by kernel_rfl)) (ev_fz (et_lst (eav_cons (ev_fz (et_op op_addA l_add (eh_s rfl (.inl (by kernel_rfl))) (eh_s rfl (.inl (by kernel_rfl))))) (eav_cons (ev_fz (et_op op_addA l_add (eh_v (ev_fz (et_op op_addA l_add (eh_v (ev_fz (et_op op_addA l_add (eh_s rfl (.inl (by kernel_rfl))) (eh_s rfl (.inl (by kernel_rfl)))))) (eh_s rfl (.inl (by kernel_rfl)))))) (eh_s rfl (.inl (by kernel_rfl))))) (eav_cons (ev_fz (et_op op_addA l_add (eh_v (ev_fz (et_op op_addA l_add (eh_v (ev_fz (et_op op_addA l_add (eh_s rfl (.inl (by kernel_rfl))) (eh_v (ev_fz (et_cut (eh_s rfl (.inl (by kernel_rfl))) eo_n (eo_s ev_int))))))) (eh_s rfl (.inl (by kernel_rfl)))))) (eh_v (ev_fz (et_cut (eh_s rfl (.inl (by kernel_rfl))) (eo_s ev_int) eo_n))))) eav_nil)))))) (by decide))
    (sds_cons (sd_setV (ps_set sc__law_line_spelt.nd rfl (.inl (by kernel_rfl)) (ev_fz (et_op op_addA l_add (eh_s rfl (.inl (by kernel_rfl))) (eh_v (ev_fz (et_lst (eav_cons (ev_fz (et_op op_addA l_add (eh_v (ev_fz (et_op op_addA l_add (eh_s rfl (.inl (by kernel_rfl))) (eh_s rfl (.inl (by kernel_rfl)))))) (eh_s rfl (.inl (by kernel_rfl))))) (eav_cons (ev_fz (et_op op_addA l_add (eh_v (ev_fz (et_op op_addA l_add (eh_v (ev_fz (et_op op_addA l_add (eh_s rfl (.inl (by kernel_rfl))) (eh_v (ev_fz (et_lst (eav_cons (ev_var rfl (.inl (by kernel_rfl))) eav_nil))))))) (eh_s rfl (.inl (by kernel_rfl)))))) (eh_s rfl (.inl (by kernel_rfl))))) (eav_cons (ev_fz (et_op op_addA l_add (eh_v (ev_fz (et_op op_addA l_add (eh_s rfl (.inl (by kernel_rfl))) (eh_v (ev_fz (et_lst (eav_cons (ev_var rfl (.inl (by kernel_rfl))) eav_nil))))))) (eh_s rfl (.inl (by kernel_rfl))))) eav_nil))))))))) (by decide))
    (sds_one (sd_retV (ev_bm (t := .str) f_join (pe_bm PySem.F.plainAttrs_str PySem.F.slot_str_join PySem.F.type_str_join mt_join (eh_v (ev_str (by rfl))) (eah_cons (eh_v (ev_ix (ix_A (hu1 hr)) f_idx (eh_s rfl (.inl (by kernel_rfl))) (eh_s rfl (.inl (by kernel_rfl))) (fun _ _ => rfl))) eah_nil)))))))))))))
theorem c__law_refused {fa : Addr} {fd : FuncData} (F : Fun K "_law_refused" "_law_refused" s__law_refused fa fd) (hm : mg "_law_refused" = some (.ref fa)) (hb : Binds K fd ["_law_text"] []) (z_ValueError : mg "ValueError" = none) (z_any : mg "any" = none) (z_isinstance : mg "isinstance" = none) (C_read_program : Cal P w K mg base 5 "read_program" f_read_program) (R_ : Errs K mg rs_ ts_ fl_) : Cal P w K mg base 6 "_law_refused" f__law_refused :=
  Cal.mk' F hm hb sc__law_refused (by decide) fun cdv A outer s H E hr =>
    (sds_cons (sd_setV (ps_set sc__law_refused.nd rfl (.inl (by kernel_rfl)) ev_non) (by decide))
    (sds_cons (sd_setV (ps_set sc__law_refused.nd rfl (.inl (by kernel_rfl)) ev_non) (by decide))
    (sds_cons (sd_try R_ (by decide) (by rfl) rfl rfl rfl sc__law_refused.nd rfl rfl (gl_ (by kernel_rfl)) (by decide) (fun W pn xe tk po => (sds_one (sd_setV (ps_set sc__law_refused.nd rfl (.inl (by kernel_rfl)) (ev_fz (et_call (C_read_program.mono (by decide)) hr (gl_ (by kernel_rfl)) tk (eaa_v (ev_var rfl (.inl (by kernel_rfl))) eaa_nil)))) (by decide)))) (fun a pn => (sds_one (sd_setV (ps_set sc__law_refused.nd rfl (.inl (by kernel_rfl)) (ev_var rfl (.inl (by kernel_rfl)))) (by decide)))))
    (sds_cons (sd_if (eb_cmp op_isN f_isN (eh_s rfl (.inl (by kernel_rfl))) (eh_v ev_non) (nomark _)) (sds_one (sd_retV (ev_tup (eav_cons ev_non (eav_cons (ev_var rfl (.inl (by kernel_rfl))) eav_nil))))) sds_nil)
    (sds_cons (sd_if (eb_w (ew_or (eb_not (eb_val (ev_isE1 R_ (gl_ (by kernel_rfl)) z_isinstance (eh_s rfl (.inl (by kernel_rfl))) (cls_own R_ (by decide) (by rfl) (gl_ (by kernel_rfl)))))) (ew_or1 (eb_not (eb_val (ev_isE1 R_ (gl_ (by kernel_rfl)) z_isinstance (eh_s rfl (.inl (by kernel_rfl))) (cls_VE R_ (gl_ (by kernel_rfl)) z_ValueError))))))) (sds_one (sd_retV (ev_tup (eav_cons (ev_str (by rfl)) (eav_cons ev_non eav_nil))))) sds_nil)
    (sds_cons (sd_setV (ps_set sc__law_refused.nd rfl (.inl (by kernel_rfl)) (ev_fz (et_lst (eav_cons (ev_isE1 R_ (gl_ (by kernel_rfl)) z_isinstance (eh_s rfl (.inl (by kernel_rfl))) (cls_own R_ (by decide) (by rfl) (gl_ (by kernel_rfl)))) (eav_cons (ev_isE1 R_ (gl_ (by kernel_rfl)) z_isinstance (eh_s rfl (.inl (by kernel_rfl))) (cls_own R_ (by decide) (by rfl) (gl_ (by kernel_rfl)))) (eav_cons (ev_isE1 R_ (gl_ (by kernel_rfl)) z_isinstance (eh_s rfl (.inl (by kernel_rfl))) (cls_own R_ (by decide) (by rfl) (gl_ (by kernel_rfl)))) eav_nil)))))) (by decide))
    (sds_cons (sd_setV (ps_set sc__law_refused.nd rfl (.inl (by kernel_rfl)) (ev_fz (et_op op_addA l_add (eh_s rfl (.inl (by kernel_rfl))) (eh_v (ev_fz (et_lst (eav_cons (ev_isE1 R_ (gl_ (by kernel_rfl)) z_isinstance (eh_s rfl (.inl (by kernel_rfl))) (cls_own R_ (by decide) (by rfl) (gl_ (by kernel_rfl)))) (eav_cons (ev_isE1 R_ (gl_ (by kernel_rfl)) z_isinstance (eh_s rfl (.inl (by kernel_rfl))) (cls_own R_ (by decide) (by rfl) (gl_ (by kernel_rfl)))) (eav_cons (ev_isE1 R_ (gl_ (by kernel_rfl)) z_isinstance (eh_s rfl (.inl (by kernel_rfl))) (cls_own R_ (by decide) (by rfl) (gl_ (by kernel_rfl)))) eav_nil))))))))) (by decide))
    (sds_one (sd_retV (ev_tup (eav_cons (ev_if (eb_w (ew_or (eb_val (ev_cb f_any (pe_callB (cr_any rfl) (gl_ (by kernel_rfl)) z_any (by decide +kernel) (eah_cons (eh_s rfl (.inl (by kernel_rfl))) eah_nil)))) (ew_or1 (eb_val (ev_isE1 R_ (gl_ (by kernel_rfl)) z_isinstance (eh_s rfl (.inl (by kernel_rfl))) (cls_own R_ (by decide) (by rfl) (gl_ (by kernel_rfl)))))))) (ev_str (by rfl)) (ev_fldE R_ (by decide) (by rfl) (eh_s rfl (.inl (by kernel_rfl))))) (eav_cons ev_non eav_nil))))))))))))
theorem b_ok_law {fa : Addr} {fd : FuncData} (F : Fun K "law" "law" s_law fa fd) (z_range : mg "range" = none) (C__law_begin : Cal P w K mg base 1 "_law_begin" f__law_begin) (C__law_program : Cal P w K mg base 2 "_law_program" f__law_program) (C__law_sheet : Cal P w K mg base 3 "_law_sheet" f__law_sheet) (C__law_take : Cal P w K mg base 1 "_law_take" f__law_take) (C__law_many : Cal P w K mg base 2 "_law_many" f__law_many) (C__law_read : Cal P w K mg base 3 "_law_read" f__law_read) (C__law_same : Cal P w K mg base 71 "_law_same" f__law_same) (C_read_program : Cal P w K mg base 5 "read_program" f_read_program) (C__law_spelt : Cal P w K mg base 2 "_law_spelt" f__law_spelt) (C__law_line_spelt : Cal P w K mg base 2 "_law_line_spelt" f__law_line_spelt) (C__law_refused : Cal P w K mg base 6 "_law_refused" f__law_refused) {cdv : Value} {A : Around} {outer : List PySem.Env} {s : Shared} {H : Hp} {E : XK} (hr : RoomG 71 (A.deeper (envOfC "law" (defScope s_law) s.heap.objs.size fa cdv))) :
    SDs (cxOf (L2.CX P w) P w K mg base ["_law_script", "_law_state", "_law_turn", "_law_empty", "_law_program_here", "_law_text", "_law_some", "_law_more", "_law_ahead", "_law_one", "_law_row", "_law_due"] "law" (defScope s_law) fa cdv A outer s H E) (fun c d _ H => E c d H) [false] (defBody s_law) B_law :=
    (sds_cons (sd_set (ps_set sc_law.nd rfl (.inl (by kernel_rfl)) (et_call (C__law_begin.mono (by decide)) hr (gl_ (by kernel_rfl)) (takes_of rfl rfl rfl rfl) (eaa_v (ev_var rfl (.inl (by kernel_rfl))) eaa_nil))) (by decide))
    (sds_cons (sd_for (sl := [2]) (passes_of (K := _) (E₁ := _) rfl) rfl (ei_arg (pi_range1 (gl_ (by kernel_rfl)) z_range (eav_cons ev_int eav_nil)) ht_rng1) (gd_name sc_law.nd rfl (.inl (by kernel_rfl)) (by decide)) (sds_wipe [2, 3, 4, 5, 6, 7, 8, 9, 10, 11] (sds_cons (sd_setV (ps_set sc_law.nd rfl (.inl (by kernel_rfl)) (ev_cmp (op_eqA hr.units) (Op2B.toV f_eq) (eh_v (ev_fz (et_call (C__law_take.mono (by decide)) hr (gl_ (by kernel_rfl)) (takes_of rfl rfl rfl rfl) (eaa_io rfl (.inl (by kernel_rfl)) (eaa_v ev_int eaa_nil))))) (eh_v ev_int) (nomark _))) (by decide))
    (sds_cons (sd_setV (ps_set sc_law.nd rfl (.inl (by kernel_rfl)) (ev_fz (et_call (C__law_program.mono (by decide)) hr (gl_ (by kernel_rfl)) (takes_of rfl rfl rfl rfl) (eaa_io rfl (.inl (by kernel_rfl)) (eaa_v (ev_fz (et_call (C__law_many.mono (by decide)) hr (gl_ (by kernel_rfl)) (takes_of rfl rfl rfl rfl) (eaa_io rfl (.inl (by kernel_rfl)) eaa_nil))) eaa_nil))))) (by decide))
    (sds_cons (sd_setV (ps_set sc_law.nd rfl (.inl (by kernel_rfl)) (ev_fz (et_call (C__law_sheet.mono (by decide)) hr (gl_ (by kernel_rfl)) (takes_of rfl rfl rfl rfl) (eaa_io rfl (.inl (by kernel_rfl)) (eaa_v (ev_var rfl (.inl (by kernel_rfl))) (eaa_v (ev_var rfl (.inl (by kernel_rfl))) eaa_nil)))))) (by decide))
    (sds_cons (sd_set (ps_set sc_law.nd rfl (.inl (by kernel_rfl)) (et_lst (eav_cons (ev_var rfl (.inl (by kernel_rfl))) eav_nil))) (by decide))
    (sds_cons (sd_for (sl := [7]) (passes_of (K := _) (E₁ := _) rfl) rfl (ei_arg (pi_range1 (gl_ (by kernel_rfl)) z_range (eav_cons ev_int eav_nil)) ht_rng1) (gd_name sc_law.nd rfl (.inl (by kernel_rfl)) (by decide)) (sds_wipe [7, 8] (sds_cons (sd_setV (ps_set sc_law.nd rfl (.inl (by kernel_rfl)) (ev_ix (ix_A (hu1 hr)) f_idx (eh_v (ev_fz (et_lst (eav_cons (ev_var rfl (.inl (by kernel_rfl))) (eav_cons (ev_ix (ix_A (hu1 hr)) f_idx (eh_s rfl (.inl (by kernel_rfl))) (eh_v (ev_un un_neg f_neg (eh_v ev_int))) (fun _ _ => rfl)) eav_nil))))) (eh_v (ev_fz (et_call (C__law_take.mono (by decide)) hr (gl_ (by kernel_rfl)) (takes_of rfl rfl rfl rfl) (eaa_io rfl (.inl (by kernel_rfl)) (eaa_v ev_int eaa_nil))))) (fun _ _ => rfl))) (by decide))
    (sds_one (sd_expr (ev_mut m_append (pe_bm PySem.F.plainAttrs_list PySem.F.slot_list_append PySem.F.type_list_append mt_append (pe_var rfl (.inl (by kernel_rfl))) (eav_cons (ev_if (eb_cmp (op_eqA hr.units) f_eq (eh_v (ev_fz (et_call (C__law_take.mono (by decide)) hr (gl_ (by kernel_rfl)) (takes_of rfl rfl rfl rfl) (eaa_io rfl (.inl (by kernel_rfl)) (eaa_v ev_int eaa_nil))))) (eh_v ev_int) (nomark _)) (ev_fz (et_call (C__law_spelt.mono (by decide)) hr (gl_ (by kernel_rfl)) (takes_of rfl rfl rfl rfl) (eaa_io rfl (.inl (by kernel_rfl)) (eaa_v (ev_var rfl (.inl (by kernel_rfl))) eaa_nil)))) (ev_fz (et_call (C__law_line_spelt.mono (by decide)) hr (gl_ (by kernel_rfl)) (takes_of rfl rfl rfl rfl) (eaa_io rfl (.inl (by kernel_rfl)) (eaa_v (ev_var rfl (.inl (by kernel_rfl))) eaa_nil))))) eav_nil))))))) (by decide))
    (sds_cons (sd_for (sl := [9]) (passes_of (K := _) (E₁ := _) rfl) rfl (ei_seq (ev_fv rfl (.inl (by kernel_rfl)))) (gd_name sc_law.nd rfl (.inl (by kernel_rfl)) (by decide)) (sds_wipe [9, 10, 11] (sds_cons (sd_asg (sl := [10, 11]) (ev_fz (et_call (C__law_read.mono (by decide)) hr (gl_ (by kernel_rfl)) (takes_of rfl rfl rfl rfl) (eaa_v (ev_var rfl (.inl (by kernel_rfl))) eaa_nil))) (gd_tup rfl (gds_cons (gd_name sc_law.nd rfl (.inl (by kernel_rfl)) (by decide)) (gds_cons (gd_name sc_law.nd rfl (.inl (by kernel_rfl)) (by decide)) gds_nil)) rfl) (by decide))
    (sds_one (sd_if (eb_not (eb_val (ev_fz (et_call (C__law_same.mono (by decide)) hr (gl_ (by kernel_rfl)) (takes_of rfl rfl rfl rfl) (eaa_v (ev_fz (et_call (C__law_refused.mono (by decide)) hr (gl_ (by kernel_rfl)) (takes_of rfl rfl rfl rfl) (eaa_v (ev_var rfl (.inl (by kernel_rfl))) eaa_nil))) (eaa_v (ev_tup (eav_cons (ev_var rfl (.inl (by kernel_rfl))) (eav_cons (ev_var rfl (.inl (by kernel_rfl))) eav_nil))) eaa_nil)))))) (sds_one (sd_retV ev_bl)) sds_nil)))) (by decide))
    (sds_one (sd_if (eb_not (eb_val (ev_fz (et_call (C__law_same.mono (by decide)) hr (gl_ (by kernel_rfl)) (takes_of rfl rfl rfl rfl) (eaa_v (ev_fz (et_call (C_read_program.mono (by decide)) hr (gl_ (by kernel_rfl)) (takes_of rfl rfl rfl rfl) (eaa_v (ev_var rfl (.inl (by kernel_rfl))) eaa_nil))) (eaa_v (ev_var rfl (.inl (by kernel_rfl))) eaa_nil)))))) (sds_one (sd_retV ev_bl)) sds_nil))))))))) (by decide))
    (sds_one (sd_retV ev_bl))))
end
theorem all_mk {l : PySem.W.OpenLaw} {w : World} {K : PySem.W.Frag} {h : Heap} {mg : Str → Option Value} {fa a__law_begin a__law_take a__law_program a__law_word a__law_sheet a__law_many a__law_is_figures a__law_is_name a__law_row_told a__law_read a__law_same a_Reading____init__ a_Reading__program a_is_name a_label_in a_labels_in a_is_number_told a_row_with_spot a_row_of a_Reading__take_row a_read_program a__law_signs a__law_spelt a__law_line_spelt a__law_refused a_law k_BadRow k_BadText k_NoForm k_NoName k_NoPlace k_NoTarget k_OddError k_TooFar k_TooFull i_BadRow : Addr} (X : K.In h) (G : h.Ns mainGlobals mg) (hfa : mg "law" = some (.ref fa))
    (n_BadRow : PySem.W.nsIn K mainGlobals "BadRow" = some (some (.ref k_BadRow)))
    (n_BadText : PySem.W.nsIn K mainGlobals "BadText" = some (some (.ref k_BadText)))
    (n_NoForm : PySem.W.nsIn K mainGlobals "NoForm" = some (some (.ref k_NoForm)))
    (n_NoName : PySem.W.nsIn K mainGlobals "NoName" = some (some (.ref k_NoName)))
    (n_NoPlace : PySem.W.nsIn K mainGlobals "NoPlace" = some (some (.ref k_NoPlace)))
    (n_NoTarget : PySem.W.nsIn K mainGlobals "NoTarget" = some (some (.ref k_NoTarget)))
    (n_OddError : PySem.W.nsIn K mainGlobals "OddError" = some (some (.ref k_OddError)))
    (n_TooFar : PySem.W.nsIn K mainGlobals "TooFar" = some (some (.ref k_TooFar)))
    (n_TooFull : PySem.W.nsIn K mainGlobals "TooFull" = some (some (.ref k_TooFull)))
    (xe_BadRow : PySem.W.subIn K (.ref k_BadRow) (.type "BaseException") = some true)
    (xt_BadRow : PySem.W.typeIn K (.ref k_BadRow) = some (.type "type"))
    (xd_BadRow : PySem.W.hasDictIn K k_BadRow = true)
    (xe_BadText : PySem.W.subIn K (.ref k_BadText) (.type "BaseException") = some true)
    (xt_BadText : PySem.W.typeIn K (.ref k_BadText) = some (.type "type"))
    (xd_BadText : PySem.W.hasDictIn K k_BadText = true)
    (xe_NoForm : PySem.W.subIn K (.ref k_NoForm) (.type "BaseException") = some true)
    (xt_NoForm : PySem.W.typeIn K (.ref k_NoForm) = some (.type "type"))
    (xd_NoForm : PySem.W.hasDictIn K k_NoForm = true)
    (xe_NoName : PySem.W.subIn K (.ref k_NoName) (.type "BaseException") = some true)
    (xt_NoName : PySem.W.typeIn K (.ref k_NoName) = some (.type "type"))
    (xd_NoName : PySem.W.hasDictIn K k_NoName = true)
    (xe_NoPlace : PySem.W.subIn K (.ref k_NoPlace) (.type "BaseException") = some true)
    (xt_NoPlace : PySem.W.typeIn K (.ref k_NoPlace) = some (.type "type"))
    (xd_NoPlace : PySem.W.hasDictIn K k_NoPlace = true)
    (xe_NoTarget : PySem.W.subIn K (.ref k_NoTarget) (.type "BaseException") = some true)
    (xt_NoTarget : PySem.W.typeIn K (.ref k_NoTarget) = some (.type "type"))
    (xd_NoTarget : PySem.W.hasDictIn K k_NoTarget = true)
    (xe_OddError : PySem.W.subIn K (.ref k_OddError) (.type "BaseException") = some true)
    (xt_OddError : PySem.W.typeIn K (.ref k_OddError) = some (.type "type"))
    (xd_OddError : PySem.W.hasDictIn K k_OddError = true)
    (xe_TooFar : PySem.W.subIn K (.ref k_TooFar) (.type "BaseException") = some true)
    (xt_TooFar : PySem.W.typeIn K (.ref k_TooFar) = some (.type "type"))
    (xd_TooFar : PySem.W.hasDictIn K k_TooFar = true)
    (xe_TooFull : PySem.W.subIn K (.ref k_TooFull) (.type "BaseException") = some true)
    (xt_TooFull : PySem.W.typeIn K (.ref k_TooFull) = some (.type "type"))
    (xd_TooFull : PySem.W.hasDictIn K k_TooFull = true)
    {nm_BadRow q_BadRow : Str} {N_BadRow : Addr} {bs_BadRow : List Value} {sn_BadRow : List Str} {sub_BadRow : List Value} {ab_BadRow : Bool} {col_BadRow : Option Bool} {dd_BadRow : Option Addr} {m0_BadRow m1_BadRow m2_BadRow m3_BadRow m5_BadRow : Option Value}
    (xl_BadRow : K.lookup k_BadRow = some (excClassObj nm_BadRow q_BadRow k_BadRow N_BadRow bs_BadRow [.ref k_OddError, .type "ValueError", .type "Exception", .type "BaseException", .type "object"] true sn_BadRow sub_BadRow ab_BadRow col_BadRow dd_BadRow m0_BadRow m1_BadRow m2_BadRow m3_BadRow m5_BadRow "ValueError.__new__"))
    (xs_BadRow : PySem.W.findIn K (.ref k_BadRow) "__setattr__" = some (some (.builtin "object.__setattr__")))
    (xk_BadRow : PySem.W.keepIn K (.ref k_BadRow) = true)
    (xg_BadRow : PySem.W.findIn K (.ref k_BadRow) "__getattribute__" = some (some (.builtin "BaseException.__getattribute__")))
    (xh_BadRow : PySem.W.findIn K (.ref k_BadRow) "__getattr__" = some none)
    (xc_BadRow : PySem.W.findIn K (.ref k_BadRow) "__class__" = some (some (.builtin "object.__class__")))
    (xm_BadRow : PySem.W.mroIn K k_BadRow (.type "object") = some true)
    (xv_BadRow : PySem.W.subIn K (.ref k_BadRow) (.type "ValueError") = some true)
    (xb_BadRow_BadRow : PySem.W.subIn K (.ref k_BadRow) (.ref k_BadRow) = some true)
    (xb_BadRow_BadText : PySem.W.subIn K (.ref k_BadRow) (.ref k_BadText) = some false)
    (xb_BadRow_NoForm : PySem.W.subIn K (.ref k_BadRow) (.ref k_NoForm) = some false)
    (xb_BadRow_NoName : PySem.W.subIn K (.ref k_BadRow) (.ref k_NoName) = some false)
    (xb_BadRow_NoPlace : PySem.W.subIn K (.ref k_BadRow) (.ref k_NoPlace) = some false)
    (xb_BadRow_NoTarget : PySem.W.subIn K (.ref k_BadRow) (.ref k_NoTarget) = some false)
    (xb_BadRow_OddError : PySem.W.subIn K (.ref k_BadRow) (.ref k_OddError) = some true)
    (xb_BadRow_TooFar : PySem.W.subIn K (.ref k_BadRow) (.ref k_TooFar) = some false)
    (xb_BadRow_TooFull : PySem.W.subIn K (.ref k_BadRow) (.ref k_TooFull) = some false)
    (xf_BadRow_row : PySem.W.findIn K (.ref k_BadRow) "row" = some none)
    {odi_BadRow ani_BadRow : Option Addr} {sli_BadRow : Array (Option Value)} {oci_BadRow kVi_BadRow dci_BadRow pmi_BadRow cdi_BadRow cti_BadRow : Value}
    (xi_BadRow : PySem.W.findIn K (.ref k_BadRow) "__init__" = some (some (.ref i_BadRow)))
    (xj_BadRow : PySem.W.typeIn K (.ref i_BadRow) = some (.type "function"))
    (xq_BadRow : K.lookup i_BadRow = some ⟨oci_BadRow, odi_BadRow, .func (PySem.W.fnOf "__init__" "BadRow.__init__" (defArgs s__BadRow) (defBody s__BadRow) (defScope s__BadRow) .none kVi_BadRow dci_BadRow pmi_BadRow ani_BadRow cdi_BadRow cti_BadRow), sli_BadRow⟩)
    (xw_BadRow : PySem.W.codeIn K cdi_BadRow "BadRow.__init__" = true)
    (xz_BadRow : PySem.W.keepIn K (.ref i_BadRow) = true)
    (og_ : PySem.W.specialIn K (.builtin "object.__class__") "__get__" = some (some (.builtin "getset_descriptor.__get__")))
    (ot_ : PySem.W.takesIn K (.builtin "object.__class__") = some true)
    (os_ : PySem.W.specialIn K (.ref k_OddError) "__getattribute__" = some (some (.builtin "type.__getattribute__")))
    (or_ : PySem.W.readsIn K k_OddError (.type "type") = true)
    (oi_ : PySem.W.findCls K (.ref k_OddError) (.type "type") "__init__" = some (.val (.builtin "ValueError.__init__")))
    {gt_FIGURES : Tok}
    (n_FIGURES : PySem.W.nsIn K mainGlobals "FIGURES" = some (some (.str (sT [48, 49, 50, 51, 52, 53, 54, 55, 56, 57]) gt_FIGURES)))
    {ga_JUMPS : Addr} {god_JUMPS : Option Addr} {gn_JUMPS : Nat} {gsl_JUMPS : Array (Option Value)} {gt_JUMPS_0 gt_JUMPS_1 : Tok}
    (n_JUMPS : PySem.W.nsIn K mainGlobals "JUMPS" = some (some (.ref ga_JUMPS)))
    (gk_JUMPS : K.lookup ga_JUMPS = some ⟨.type "tuple", god_JUMPS, .seq #[.str (sT [106, 117, 109, 112]) gt_JUMPS_0, .str (sT [122, 101, 114, 111]) gt_JUMPS_1] gn_JUMPS, gsl_JUMPS⟩)
    {gt_LETTERS : Tok}
    (n_LETTERS : PySem.W.nsIn K mainGlobals "LETTERS" = some (some (.str (sT [97, 98, 99, 100, 101, 102, 103, 104, 105, 106, 107, 108, 109, 110, 111, 112, 113, 114, 115, 116, 117, 118, 119, 120, 121, 122]) gt_LETTERS)))
    {gt_MOST_LETTERS : Tok}
    (n_MOST_LETTERS : PySem.W.nsIn K mainGlobals "MOST_LETTERS" = some (some (.int 8 gt_MOST_LETTERS)))
    {gt_MOST_NUMBER : Tok}
    (n_MOST_NUMBER : PySem.W.nsIn K mainGlobals "MOST_NUMBER" = some (some (.int 255 gt_MOST_NUMBER)))
    {gt_MOST_ROWS : Tok}
    (n_MOST_ROWS : PySem.W.nsIn K mainGlobals "MOST_ROWS" = some (some (.int 200 gt_MOST_ROWS)))
    {ga_SPOTS : Addr} {god_SPOTS : Option Addr} {gn_SPOTS : Nat} {gsl_SPOTS : Array (Option Value)} {gt_SPOTS_0 gt_SPOTS_1 gt_SPOTS_2 gt_SPOTS_3 : Tok}
    (n_SPOTS : PySem.W.nsIn K mainGlobals "SPOTS" = some (some (.ref ga_SPOTS)))
    (gk_SPOTS : K.lookup ga_SPOTS = some ⟨.type "tuple", god_SPOTS, .seq #[.str (sT [97]) gt_SPOTS_0, .str (sT [98]) gt_SPOTS_1, .str (sT [99]) gt_SPOTS_2, .str (sT [100]) gt_SPOTS_3] gn_SPOTS, gsl_SPOTS⟩)
    {ko_Reading : Addr}
    (on_Reading : PySem.W.nsIn K mainGlobals "Reading" = some (some (.ref ko_Reading)))
    (opg_Reading : PySem.W.plainGet K ko_Reading Str.empty = true)
    (ohd_Reading : PySem.W.hasDictIn K ko_Reading = true)
    (opo_Reading : PySem.W.plainOver K ko_Reading = true)
    (osa_Reading : PySem.W.findIn K (.ref ko_Reading) "__setattr__" = some (some (.builtin "object.__setattr__")))
    (ona_Reading_known : PySem.W.findIn K (.ref ko_Reading) "known" = some none)
    (ona_Reading_rows : PySem.W.findIn K (.ref ko_Reading) "rows" = some none)
    (ona_Reading_places : PySem.W.findIn K (.ref ko_Reading) "places" = some none)
    (omk_Reading : PySem.W.makesIn K ko_Reading = true)
    (okp_Reading : PySem.W.keepIn K (.ref ko_Reading) = true)
    {od__law_begin an__law_begin : Option Addr} {sl__law_begin : Array (Option Value)} {oc__law_begin kV__law_begin dc__law_begin pm__law_begin cd__law_begin ct__law_begin : Value}
    (m__law_begin : PySem.W.nsIn K mainGlobals "_law_begin" = some (some (.ref a__law_begin))) (l__law_begin : K.lookup a__law_begin = some ⟨oc__law_begin, od__law_begin, .func (PySem.W.fnOf "_law_begin" "_law_begin" (defArgs s__law_begin) (defBody s__law_begin) (defScope s__law_begin) .none kV__law_begin dc__law_begin pm__law_begin an__law_begin cd__law_begin ct__law_begin), sl__law_begin⟩) (q__law_begin : PySem.W.codeIn K cd__law_begin "_law_begin" = true) (k__law_begin : PySem.W.keepIn K (.ref a__law_begin) = true)
    {od__law_take an__law_take : Option Addr} {sl__law_take : Array (Option Value)} {oc__law_take kV__law_take dc__law_take pm__law_take cd__law_take ct__law_take : Value}
    (m__law_take : PySem.W.nsIn K mainGlobals "_law_take" = some (some (.ref a__law_take))) (l__law_take : K.lookup a__law_take = some ⟨oc__law_take, od__law_take, .func (PySem.W.fnOf "_law_take" "_law_take" (defArgs s__law_take) (defBody s__law_take) (defScope s__law_take) .none kV__law_take dc__law_take pm__law_take an__law_take cd__law_take ct__law_take), sl__law_take⟩) (q__law_take : PySem.W.codeIn K cd__law_take "_law_take" = true) (k__law_take : PySem.W.keepIn K (.ref a__law_take) = true)
    {od__law_program an__law_program : Option Addr} {sl__law_program : Array (Option Value)} {oc__law_program kV__law_program dc__law_program pm__law_program cd__law_program ct__law_program : Value}
    (m__law_program : PySem.W.nsIn K mainGlobals "_law_program" = some (some (.ref a__law_program))) (l__law_program : K.lookup a__law_program = some ⟨oc__law_program, od__law_program, .func (PySem.W.fnOf "_law_program" "_law_program" (defArgs s__law_program) (defBody s__law_program) (defScope s__law_program) .none kV__law_program dc__law_program pm__law_program an__law_program cd__law_program ct__law_program), sl__law_program⟩) (q__law_program : PySem.W.codeIn K cd__law_program "_law_program" = true) (k__law_program : PySem.W.keepIn K (.ref a__law_program) = true)
    {od__law_word an__law_word : Option Addr} {sl__law_word : Array (Option Value)} {oc__law_word kV__law_word dc__law_word pm__law_word cd__law_word ct__law_word : Value}
    (m__law_word : PySem.W.nsIn K mainGlobals "_law_word" = some (some (.ref a__law_word))) (l__law_word : K.lookup a__law_word = some ⟨oc__law_word, od__law_word, .func (PySem.W.fnOf "_law_word" "_law_word" (defArgs s__law_word) (defBody s__law_word) (defScope s__law_word) .none kV__law_word dc__law_word pm__law_word an__law_word cd__law_word ct__law_word), sl__law_word⟩) (q__law_word : PySem.W.codeIn K cd__law_word "_law_word" = true) (k__law_word : PySem.W.keepIn K (.ref a__law_word) = true)
    {od__law_sheet an__law_sheet : Option Addr} {sl__law_sheet : Array (Option Value)} {oc__law_sheet kV__law_sheet dc__law_sheet pm__law_sheet cd__law_sheet ct__law_sheet : Value}
    (m__law_sheet : PySem.W.nsIn K mainGlobals "_law_sheet" = some (some (.ref a__law_sheet))) (l__law_sheet : K.lookup a__law_sheet = some ⟨oc__law_sheet, od__law_sheet, .func (PySem.W.fnOf "_law_sheet" "_law_sheet" (defArgs s__law_sheet) (defBody s__law_sheet) (defScope s__law_sheet) .none kV__law_sheet dc__law_sheet pm__law_sheet an__law_sheet cd__law_sheet ct__law_sheet), sl__law_sheet⟩) (q__law_sheet : PySem.W.codeIn K cd__law_sheet "_law_sheet" = true) (k__law_sheet : PySem.W.keepIn K (.ref a__law_sheet) = true)
    {od__law_many an__law_many : Option Addr} {sl__law_many : Array (Option Value)} {oc__law_many kV__law_many dc__law_many pm__law_many cd__law_many ct__law_many : Value}
    (m__law_many : PySem.W.nsIn K mainGlobals "_law_many" = some (some (.ref a__law_many))) (l__law_many : K.lookup a__law_many = some ⟨oc__law_many, od__law_many, .func (PySem.W.fnOf "_law_many" "_law_many" (defArgs s__law_many) (defBody s__law_many) (defScope s__law_many) .none kV__law_many dc__law_many pm__law_many an__law_many cd__law_many ct__law_many), sl__law_many⟩) (q__law_many : PySem.W.codeIn K cd__law_many "_law_many" = true) (k__law_many : PySem.W.keepIn K (.ref a__law_many) = true)
    {od__law_is_figures an__law_is_figures : Option Addr} {sl__law_is_figures : Array (Option Value)} {oc__law_is_figures kV__law_is_figures dc__law_is_figures pm__law_is_figures cd__law_is_figures ct__law_is_figures : Value}
    (m__law_is_figures : PySem.W.nsIn K mainGlobals "_law_is_figures" = some (some (.ref a__law_is_figures))) (l__law_is_figures : K.lookup a__law_is_figures = some ⟨oc__law_is_figures, od__law_is_figures, .func (PySem.W.fnOf "_law_is_figures" "_law_is_figures" (defArgs s__law_is_figures) (defBody s__law_is_figures) (defScope s__law_is_figures) .none kV__law_is_figures dc__law_is_figures pm__law_is_figures an__law_is_figures cd__law_is_figures ct__law_is_figures), sl__law_is_figures⟩) (q__law_is_figures : PySem.W.codeIn K cd__law_is_figures "_law_is_figures" = true) (k__law_is_figures : PySem.W.keepIn K (.ref a__law_is_figures) = true)
    {od__law_is_name an__law_is_name : Option Addr} {sl__law_is_name : Array (Option Value)} {oc__law_is_name kV__law_is_name dc__law_is_name pm__law_is_name cd__law_is_name ct__law_is_name : Value}
    (m__law_is_name : PySem.W.nsIn K mainGlobals "_law_is_name" = some (some (.ref a__law_is_name))) (l__law_is_name : K.lookup a__law_is_name = some ⟨oc__law_is_name, od__law_is_name, .func (PySem.W.fnOf "_law_is_name" "_law_is_name" (defArgs s__law_is_name) (defBody s__law_is_name) (defScope s__law_is_name) .none kV__law_is_name dc__law_is_name pm__law_is_name an__law_is_name cd__law_is_name ct__law_is_name), sl__law_is_name⟩) (q__law_is_name : PySem.W.codeIn K cd__law_is_name "_law_is_name" = true) (k__law_is_name : PySem.W.keepIn K (.ref a__law_is_name) = true)
    {od__law_row_told an__law_row_told : Option Addr} {sl__law_row_told : Array (Option Value)} {oc__law_row_told kV__law_row_told dc__law_row_told pm__law_row_told cd__law_row_told ct__law_row_told : Value}
    (m__law_row_told : PySem.W.nsIn K mainGlobals "_law_row_told" = some (some (.ref a__law_row_told))) (l__law_row_told : K.lookup a__law_row_told = some ⟨oc__law_row_told, od__law_row_told, .func (PySem.W.fnOf "_law_row_told" "_law_row_told" (defArgs s__law_row_told) (defBody s__law_row_told) (defScope s__law_row_told) .none kV__law_row_told dc__law_row_told pm__law_row_told an__law_row_told cd__law_row_told ct__law_row_told), sl__law_row_told⟩) (q__law_row_told : PySem.W.codeIn K cd__law_row_told "_law_row_told" = true) (k__law_row_told : PySem.W.keepIn K (.ref a__law_row_told) = true)
    {od__law_read an__law_read : Option Addr} {sl__law_read : Array (Option Value)} {oc__law_read kV__law_read dc__law_read pm__law_read cd__law_read ct__law_read : Value}
    (m__law_read : PySem.W.nsIn K mainGlobals "_law_read" = some (some (.ref a__law_read))) (l__law_read : K.lookup a__law_read = some ⟨oc__law_read, od__law_read, .func (PySem.W.fnOf "_law_read" "_law_read" (defArgs s__law_read) (defBody s__law_read) (defScope s__law_read) .none kV__law_read dc__law_read pm__law_read an__law_read cd__law_read ct__law_read), sl__law_read⟩) (q__law_read : PySem.W.codeIn K cd__law_read "_law_read" = true) (k__law_read : PySem.W.keepIn K (.ref a__law_read) = true)
    {od__law_same an__law_same : Option Addr} {sl__law_same : Array (Option Value)} {oc__law_same kV__law_same dc__law_same pm__law_same cd__law_same ct__law_same : Value}
    (m__law_same : PySem.W.nsIn K mainGlobals "_law_same" = some (some (.ref a__law_same))) (l__law_same : K.lookup a__law_same = some ⟨oc__law_same, od__law_same, .func (PySem.W.fnOf "_law_same" "_law_same" (defArgs s__law_same) (defBody s__law_same) (defScope s__law_same) .none kV__law_same dc__law_same pm__law_same an__law_same cd__law_same ct__law_same), sl__law_same⟩) (q__law_same : PySem.W.codeIn K cd__law_same "_law_same" = true) (k__law_same : PySem.W.keepIn K (.ref a__law_same) = true)
    {od_Reading____init__ an_Reading____init__ : Option Addr} {sl_Reading____init__ : Array (Option Value)} {oc_Reading____init__ kV_Reading____init__ dc_Reading____init__ pm_Reading____init__ cd_Reading____init__ ct_Reading____init__ : Value}
    (mm_Reading____init__ : PySem.W.findIn K (.ref ko_Reading) "__init__" = some (some (.ref a_Reading____init__)))
    (mf_Reading____init__ : PySem.W.isFn K (.ref a_Reading____init__) = true)
    (l_Reading____init__ : K.lookup a_Reading____init__ = some ⟨oc_Reading____init__, od_Reading____init__, .func (PySem.W.fnOf "__init__" "Reading.__init__" (defArgs s_Reading____init__) (defBody s_Reading____init__) (defScope s_Reading____init__) .none kV_Reading____init__ dc_Reading____init__ pm_Reading____init__ an_Reading____init__ cd_Reading____init__ ct_Reading____init__), sl_Reading____init__⟩)
    (q_Reading____init__ : PySem.W.codeIn K cd_Reading____init__ "Reading.__init__" = true)
    (k_Reading____init__ : PySem.W.keepIn K (.ref a_Reading____init__) = true)
    {od_Reading__program an_Reading__program : Option Addr} {sl_Reading__program : Array (Option Value)} {oc_Reading__program kV_Reading__program dc_Reading__program pm_Reading__program cd_Reading__program ct_Reading__program : Value}
    (mm_Reading__program : PySem.W.findIn K (.ref ko_Reading) "program" = some (some (.ref a_Reading__program)))
    (mf_Reading__program : PySem.W.isFn K (.ref a_Reading__program) = true)
    (l_Reading__program : K.lookup a_Reading__program = some ⟨oc_Reading__program, od_Reading__program, .func (PySem.W.fnOf "program" "Reading.program" (defArgs s_Reading__program) (defBody s_Reading__program) (defScope s_Reading__program) .none kV_Reading__program dc_Reading__program pm_Reading__program an_Reading__program cd_Reading__program ct_Reading__program), sl_Reading__program⟩)
    (q_Reading__program : PySem.W.codeIn K cd_Reading__program "Reading.program" = true)
    (k_Reading__program : PySem.W.keepIn K (.ref a_Reading__program) = true)
    {od_is_name an_is_name : Option Addr} {sl_is_name : Array (Option Value)} {oc_is_name kV_is_name dc_is_name pm_is_name cd_is_name ct_is_name : Value}
    (m_is_name : PySem.W.nsIn K mainGlobals "is_name" = some (some (.ref a_is_name))) (l_is_name : K.lookup a_is_name = some ⟨oc_is_name, od_is_name, .func (PySem.W.fnOf "is_name" "is_name" (defArgs s_is_name) (defBody s_is_name) (defScope s_is_name) .none kV_is_name dc_is_name pm_is_name an_is_name cd_is_name ct_is_name), sl_is_name⟩) (q_is_name : PySem.W.codeIn K cd_is_name "is_name" = true) (k_is_name : PySem.W.keepIn K (.ref a_is_name) = true)
    {od_label_in an_label_in : Option Addr} {sl_label_in : Array (Option Value)} {oc_label_in kV_label_in dc_label_in pm_label_in cd_label_in ct_label_in : Value}
    (m_label_in : PySem.W.nsIn K mainGlobals "label_in" = some (some (.ref a_label_in))) (l_label_in : K.lookup a_label_in = some ⟨oc_label_in, od_label_in, .func (PySem.W.fnOf "label_in" "label_in" (defArgs s_label_in) (defBody s_label_in) (defScope s_label_in) .none kV_label_in dc_label_in pm_label_in an_label_in cd_label_in ct_label_in), sl_label_in⟩) (q_label_in : PySem.W.codeIn K cd_label_in "label_in" = true) (k_label_in : PySem.W.keepIn K (.ref a_label_in) = true)
    {od_labels_in an_labels_in : Option Addr} {sl_labels_in : Array (Option Value)} {oc_labels_in kV_labels_in dc_labels_in pm_labels_in cd_labels_in ct_labels_in : Value}
    (m_labels_in : PySem.W.nsIn K mainGlobals "labels_in" = some (some (.ref a_labels_in))) (l_labels_in : K.lookup a_labels_in = some ⟨oc_labels_in, od_labels_in, .func (PySem.W.fnOf "labels_in" "labels_in" (defArgs s_labels_in) (defBody s_labels_in) (defScope s_labels_in) .none kV_labels_in dc_labels_in pm_labels_in an_labels_in cd_labels_in ct_labels_in), sl_labels_in⟩) (q_labels_in : PySem.W.codeIn K cd_labels_in "labels_in" = true) (k_labels_in : PySem.W.keepIn K (.ref a_labels_in) = true)
    {od_is_number_told an_is_number_told : Option Addr} {sl_is_number_told : Array (Option Value)} {oc_is_number_told kV_is_number_told dc_is_number_told pm_is_number_told cd_is_number_told ct_is_number_told : Value}
    (m_is_number_told : PySem.W.nsIn K mainGlobals "is_number_told" = some (some (.ref a_is_number_told))) (l_is_number_told : K.lookup a_is_number_told = some ⟨oc_is_number_told, od_is_number_told, .func (PySem.W.fnOf "is_number_told" "is_number_told" (defArgs s_is_number_told) (defBody s_is_number_told) (defScope s_is_number_told) .none kV_is_number_told dc_is_number_told pm_is_number_told an_is_number_told cd_is_number_told ct_is_number_told), sl_is_number_told⟩) (q_is_number_told : PySem.W.codeIn K cd_is_number_told "is_number_told" = true) (k_is_number_told : PySem.W.keepIn K (.ref a_is_number_told) = true)
    {od_row_with_spot an_row_with_spot : Option Addr} {sl_row_with_spot : Array (Option Value)} {oc_row_with_spot kV_row_with_spot dc_row_with_spot pm_row_with_spot cd_row_with_spot ct_row_with_spot : Value}
    (m_row_with_spot : PySem.W.nsIn K mainGlobals "row_with_spot" = some (some (.ref a_row_with_spot))) (l_row_with_spot : K.lookup a_row_with_spot = some ⟨oc_row_with_spot, od_row_with_spot, .func (PySem.W.fnOf "row_with_spot" "row_with_spot" (defArgs s_row_with_spot) (defBody s_row_with_spot) (defScope s_row_with_spot) .none kV_row_with_spot dc_row_with_spot pm_row_with_spot an_row_with_spot cd_row_with_spot ct_row_with_spot), sl_row_with_spot⟩) (q_row_with_spot : PySem.W.codeIn K cd_row_with_spot "row_with_spot" = true) (k_row_with_spot : PySem.W.keepIn K (.ref a_row_with_spot) = true)
    {od_row_of an_row_of : Option Addr} {sl_row_of : Array (Option Value)} {oc_row_of kV_row_of dc_row_of pm_row_of cd_row_of ct_row_of : Value}
    (m_row_of : PySem.W.nsIn K mainGlobals "row_of" = some (some (.ref a_row_of))) (l_row_of : K.lookup a_row_of = some ⟨oc_row_of, od_row_of, .func (PySem.W.fnOf "row_of" "row_of" (defArgs s_row_of) (defBody s_row_of) (defScope s_row_of) .none kV_row_of dc_row_of pm_row_of an_row_of cd_row_of ct_row_of), sl_row_of⟩) (q_row_of : PySem.W.codeIn K cd_row_of "row_of" = true) (k_row_of : PySem.W.keepIn K (.ref a_row_of) = true)
    {od_Reading__take_row an_Reading__take_row : Option Addr} {sl_Reading__take_row : Array (Option Value)} {oc_Reading__take_row kV_Reading__take_row dc_Reading__take_row pm_Reading__take_row cd_Reading__take_row ct_Reading__take_row : Value}
    (mm_Reading__take_row : PySem.W.findIn K (.ref ko_Reading) "take_row" = some (some (.ref a_Reading__take_row)))
    (mf_Reading__take_row : PySem.W.isFn K (.ref a_Reading__take_row) = true)
    (l_Reading__take_row : K.lookup a_Reading__take_row = some ⟨oc_Reading__take_row, od_Reading__take_row, .func (PySem.W.fnOf "take_row" "Reading.take_row" (defArgs s_Reading__take_row) (defBody s_Reading__take_row) (defScope s_Reading__take_row) .none kV_Reading__take_row dc_Reading__take_row pm_Reading__take_row an_Reading__take_row cd_Reading__take_row ct_Reading__take_row), sl_Reading__take_row⟩)
    (q_Reading__take_row : PySem.W.codeIn K cd_Reading__take_row "Reading.take_row" = true)
    (k_Reading__take_row : PySem.W.keepIn K (.ref a_Reading__take_row) = true)
    {od_read_program an_read_program : Option Addr} {sl_read_program : Array (Option Value)} {oc_read_program kV_read_program dc_read_program pm_read_program cd_read_program ct_read_program : Value}
    (m_read_program : PySem.W.nsIn K mainGlobals "read_program" = some (some (.ref a_read_program))) (l_read_program : K.lookup a_read_program = some ⟨oc_read_program, od_read_program, .func (PySem.W.fnOf "read_program" "read_program" (defArgs s_read_program) (defBody s_read_program) (defScope s_read_program) .none kV_read_program dc_read_program pm_read_program an_read_program cd_read_program ct_read_program), sl_read_program⟩) (q_read_program : PySem.W.codeIn K cd_read_program "read_program" = true) (k_read_program : PySem.W.keepIn K (.ref a_read_program) = true)
    {od__law_signs an__law_signs : Option Addr} {sl__law_signs : Array (Option Value)} {oc__law_signs kV__law_signs dc__law_signs pm__law_signs cd__law_signs ct__law_signs : Value}
    (m__law_signs : PySem.W.nsIn K mainGlobals "_law_signs" = some (some (.ref a__law_signs))) (l__law_signs : K.lookup a__law_signs = some ⟨oc__law_signs, od__law_signs, .func (PySem.W.fnOf "_law_signs" "_law_signs" (defArgs s__law_signs) (defBody s__law_signs) (defScope s__law_signs) .none kV__law_signs dc__law_signs pm__law_signs an__law_signs cd__law_signs ct__law_signs), sl__law_signs⟩) (q__law_signs : PySem.W.codeIn K cd__law_signs "_law_signs" = true) (k__law_signs : PySem.W.keepIn K (.ref a__law_signs) = true)
    {od__law_spelt an__law_spelt : Option Addr} {sl__law_spelt : Array (Option Value)} {oc__law_spelt kV__law_spelt dc__law_spelt pm__law_spelt cd__law_spelt ct__law_spelt : Value}
    (m__law_spelt : PySem.W.nsIn K mainGlobals "_law_spelt" = some (some (.ref a__law_spelt))) (l__law_spelt : K.lookup a__law_spelt = some ⟨oc__law_spelt, od__law_spelt, .func (PySem.W.fnOf "_law_spelt" "_law_spelt" (defArgs s__law_spelt) (defBody s__law_spelt) (defScope s__law_spelt) .none kV__law_spelt dc__law_spelt pm__law_spelt an__law_spelt cd__law_spelt ct__law_spelt), sl__law_spelt⟩) (q__law_spelt : PySem.W.codeIn K cd__law_spelt "_law_spelt" = true) (k__law_spelt : PySem.W.keepIn K (.ref a__law_spelt) = true)
    {od__law_line_spelt an__law_line_spelt : Option Addr} {sl__law_line_spelt : Array (Option Value)} {oc__law_line_spelt kV__law_line_spelt dc__law_line_spelt pm__law_line_spelt cd__law_line_spelt ct__law_line_spelt : Value}
    (m__law_line_spelt : PySem.W.nsIn K mainGlobals "_law_line_spelt" = some (some (.ref a__law_line_spelt))) (l__law_line_spelt : K.lookup a__law_line_spelt = some ⟨oc__law_line_spelt, od__law_line_spelt, .func (PySem.W.fnOf "_law_line_spelt" "_law_line_spelt" (defArgs s__law_line_spelt) (defBody s__law_line_spelt) (defScope s__law_line_spelt) .none kV__law_line_spelt dc__law_line_spelt pm__law_line_spelt an__law_line_spelt cd__law_line_spelt ct__law_line_spelt), sl__law_line_spelt⟩) (q__law_line_spelt : PySem.W.codeIn K cd__law_line_spelt "_law_line_spelt" = true) (k__law_line_spelt : PySem.W.keepIn K (.ref a__law_line_spelt) = true)
    {od__law_refused an__law_refused : Option Addr} {sl__law_refused : Array (Option Value)} {oc__law_refused kV__law_refused dc__law_refused pm__law_refused cd__law_refused ct__law_refused : Value}
    (m__law_refused : PySem.W.nsIn K mainGlobals "_law_refused" = some (some (.ref a__law_refused))) (l__law_refused : K.lookup a__law_refused = some ⟨oc__law_refused, od__law_refused, .func (PySem.W.fnOf "_law_refused" "_law_refused" (defArgs s__law_refused) (defBody s__law_refused) (defScope s__law_refused) .none kV__law_refused dc__law_refused pm__law_refused an__law_refused cd__law_refused ct__law_refused), sl__law_refused⟩) (q__law_refused : PySem.W.codeIn K cd__law_refused "_law_refused" = true) (k__law_refused : PySem.W.keepIn K (.ref a__law_refused) = true)
    {od_law an_law : Option Addr} {sl_law : Array (Option Value)} {oc_law kV_law dc_law pm_law cd_law ct_law : Value}
    (m_law : PySem.W.nsIn K mainGlobals "law" = some (some (.ref a_law))) (l_law : K.lookup a_law = some ⟨oc_law, od_law, .func (PySem.W.fnOf "law" "law" (defArgs s_law) (defBody s_law) (defScope s_law) .none kV_law dc_law pm_law an_law cd_law ct_law), sl_law⟩) (q_law : PySem.W.codeIn K cd_law "law" = true) (k_law : PySem.W.keepIn K (.ref a_law) = true)
    (z_ValueError : PySem.W.nsIn K mainGlobals "ValueError" = some none) (z_all : PySem.W.nsIn K mainGlobals "all" = some none) (z_any : PySem.W.nsIn K mainGlobals "any" = some none) (z_bool : PySem.W.nsIn K mainGlobals "bool" = some none) (z_divmod : PySem.W.nsIn K mainGlobals "divmod" = some none) (z_enumerate : PySem.W.nsIn K mainGlobals "enumerate" = some none) (z_int : PySem.W.nsIn K mainGlobals "int" = some none) (z_isinstance : PySem.W.nsIn K mainGlobals "isinstance" = some none) (z_len : PySem.W.nsIn K mainGlobals "len" = some none) (z_list : PySem.W.nsIn K mainGlobals "list" = some none) (z_max : PySem.W.nsIn K mainGlobals "max" = some none) (z_min : PySem.W.nsIn K mainGlobals "min" = some none) (z_range : PySem.W.nsIn K mainGlobals "range" = some none) (z_str : PySem.W.nsIn K mainGlobals "str" = some none) (z_tuple : PySem.W.nsIn K mainGlobals "tuple" = some none) (z_zip : PySem.W.nsIn K mainGlobals "zip" = some none)
    (hlaw : ∀ ns : List Int, ns.length ≤ 63 → ∃ os, f_law [.sh (.rol (ns.map .int))] = .ok (.sh (.bl true)) os) :
    ∃ fd : FuncData, (∀ (s : Shared) (v : Value), BindsTo s fd ⟨[v], []⟩ [("_law_script", v)]) ∧ ∀ base : Heap, K.In base → base.Ns mainGlobals mg → FnG l.prog w K mg base (L2.CX l.prog w) 72 fa fd ["_law_script"] (spLaw K) := by
  have e := hfa.symm.trans (PySem.W.mg_of X G m_law)
  cases e
  have F__law_begin := fun_mk (st := s__law_begin) l__law_begin q__law_begin k__law_begin
  have b__law_begin := F__law_begin.binds (ps := ["_law_script"]) fun _ _ _ _ _ _ us hl => match us, hl with | [_], _ => rfl
  have F__law_take := fun_mk (st := s__law_take) l__law_take q__law_take k__law_take
  have b__law_take := F__law_take.binds (ps := ["_law_state", "_law_many_here"]) fun _ _ _ _ _ _ us hl => match us, hl with | [_, _], _ => rfl
  have F__law_program := fun_mk (st := s__law_program) l__law_program q__law_program k__law_program
  have b__law_program := F__law_program.binds (ps := ["_law_state", "_law_many_here"]) fun _ _ _ _ _ _ us hl => match us, hl with | [_, _], _ => rfl
  have F__law_word := fun_mk (st := s__law_word) l__law_word q__law_word k__law_word
  have b__law_word := F__law_word.binds (ps := ["_law_state", "_law_most"]) fun _ _ _ _ _ _ us hl => match us, hl with | [_, _], _ => rfl
  have F__law_sheet := fun_mk (st := s__law_sheet) l__law_sheet q__law_sheet k__law_sheet
  have b__law_sheet := F__law_sheet.binds (ps := ["_law_state", "_law_program_here", "_law_empty"]) fun _ _ _ _ _ _ us hl => match us, hl with | [_, _, _], _ => rfl
  have F__law_many := fun_mk (st := s__law_many) l__law_many q__law_many k__law_many
  have b__law_many := F__law_many.binds (ps := ["_law_state"]) fun _ _ _ _ _ _ us hl => match us, hl with | [_], _ => rfl
  have F__law_is_figures := fun_mk (st := s__law_is_figures) l__law_is_figures q__law_is_figures k__law_is_figures
  have b__law_is_figures := F__law_is_figures.binds (ps := ["_law_word_here"]) fun _ _ _ _ _ _ us hl => match us, hl with | [_], _ => rfl
  have F__law_is_name := fun_mk (st := s__law_is_name) l__law_is_name q__law_is_name k__law_is_name
  have b__law_is_name := F__law_is_name.binds (ps := ["_law_word_here"]) fun _ _ _ _ _ _ us hl => match us, hl with | [_], _ => rfl
  have F__law_row_told := fun_mk (st := s__law_row_told) l__law_row_told q__law_row_told k__law_row_told
  have b__law_row_told := F__law_row_told.binds (ps := ["_law_words"]) fun _ _ _ _ _ _ us hl => match us, hl with | [_], _ => rfl
  have F__law_read := fun_mk (st := s__law_read) l__law_read q__law_read k__law_read
  have b__law_read := F__law_read.binds (ps := ["_law_text"]) fun _ _ _ _ _ _ us hl => match us, hl with | [_], _ => rfl
  have F__law_same := fun_mk (st := s__law_same) l__law_same q__law_same k__law_same
  have b__law_same := F__law_same.binds (ps := ["_law_found", "_law_due"]) fun _ _ _ _ _ _ us hl => match us, hl with | [_, _], _ => rfl
  have F_Reading____init__ := fun_mk (st := s_Reading____init__) l_Reading____init__ q_Reading____init__ k_Reading____init__
  have b_Reading____init__ := F_Reading____init__.binds (ps := ["self", "known"]) fun _ _ _ _ _ _ us hl => match us, hl with | [_, _], _ => rfl
  have F_Reading__program := fun_mk (st := s_Reading__program) l_Reading__program q_Reading__program k_Reading__program
  have b_Reading__program := F_Reading__program.binds (ps := ["self"]) fun _ _ _ _ _ _ us hl => match us, hl with | [_], _ => rfl
  have F_is_name := fun_mk (st := s_is_name) l_is_name q_is_name k_is_name
  have b_is_name := F_is_name.binds (ps := ["thing"]) fun _ _ _ _ _ _ us hl => match us, hl with | [_], _ => rfl
  have F_label_in := fun_mk (st := s_label_in) l_label_in q_label_in k_label_in
  have b_label_in := F_label_in.binds (ps := ["words"]) fun _ _ _ _ _ _ us hl => match us, hl with | [_], _ => rfl
  have F_labels_in := fun_mk (st := s_labels_in) l_labels_in q_labels_in k_labels_in
  have b_labels_in := F_labels_in.binds (ps := ["text"]) fun _ _ _ _ _ _ us hl => match us, hl with | [_], _ => rfl
  have F_is_number_told := fun_mk (st := s_is_number_told) l_is_number_told q_is_number_told k_is_number_told
  have b_is_number_told := F_is_number_told.binds (ps := ["word"]) fun _ _ _ _ _ _ us hl => match us, hl with | [_], _ => rfl
  have F_row_with_spot := fun_mk (st := s_row_with_spot) l_row_with_spot q_row_with_spot k_row_with_spot
  have b_row_with_spot := F_row_with_spot.binds (ps := ["words"]) fun _ _ _ _ _ _ us hl => match us, hl with | [_], _ => rfl
  have F_row_of := fun_mk (st := s_row_of) l_row_of q_row_of k_row_of
  have b_row_of := F_row_of.binds (ps := ["words"]) fun _ _ _ _ _ _ us hl => match us, hl with | [_], _ => rfl
  have F_Reading__take_row := fun_mk (st := s_Reading__take_row) l_Reading__take_row q_Reading__take_row k_Reading__take_row
  have b_Reading__take_row := F_Reading__take_row.binds (ps := ["self", "words"]) fun _ _ _ _ _ _ us hl => match us, hl with | [_, _], _ => rfl
  have F_read_program := fun_mk (st := s_read_program) l_read_program q_read_program k_read_program
  have b_read_program := F_read_program.binds (ps := ["text"]) fun _ _ _ _ _ _ us hl => match us, hl with | [_], _ => rfl
  have F__law_signs := fun_mk (st := s__law_signs) l__law_signs q__law_signs k__law_signs
  have b__law_signs := F__law_signs.binds (ps := []) fun _ _ _ _ _ _ us hl => match us, hl with | [], _ => rfl
  have F__law_spelt := fun_mk (st := s__law_spelt) l__law_spelt q__law_spelt k__law_spelt
  have b__law_spelt := F__law_spelt.binds (ps := ["_law_state", "_law_text"]) fun _ _ _ _ _ _ us hl => match us, hl with | [_, _], _ => rfl
  have F__law_line_spelt := fun_mk (st := s__law_line_spelt) l__law_line_spelt q__law_line_spelt k__law_line_spelt
  have b__law_line_spelt := F__law_line_spelt.binds (ps := ["_law_state", "_law_text"]) fun _ _ _ _ _ _ us hl => match us, hl with | [_, _], _ => rfl
  have F__law_refused := fun_mk (st := s__law_refused) l__law_refused q__law_refused k__law_refused
  have b__law_refused := F__law_refused.binds (ps := ["_law_text"]) fun _ _ _ _ _ _ us hl => match us, hl with | [_], _ => rfl
  have F_law := fun_mk (st := s_law) l_law q_law k_law
  have b_law := F_law.binds (ps := ["_law_script"]) fun _ _ _ _ _ _ us hl => match us, hl with | [_], _ => rfl
  refine ⟨PySem.W.fnOf "law" "law" (defArgs s_law) (defBody s_law) (defScope s_law) .none kV_law dc_law pm_law an_law cd_law ct_law, fun s v => .of_eq rfl, fun base _ _ => ?_⟩
  have lc_Reading : Cls K ko_Reading := ⟨opg_Reading, ohd_Reading, opo_Reading, osa_Reading⟩
  have I_Reading : ClsI K mg [82, 101, 97, 100, 105, 110, 103] [[107, 110, 111, 119, 110], [114, 111, 119, 115], [112, 108, 97, 99, 101, 115]] := ⟨_, on_Reading, PySem.W.mg_of X G on_Reading, lc_Reading, (List.forall_mem_cons.mpr ⟨ona_Reading_known, (List.forall_mem_cons.mpr ⟨ona_Reading_rows, (List.forall_mem_cons.mpr ⟨ona_Reading_places, (fun _ h => nomatch h)⟩)⟩)⟩)⟩
  have y_ValueError := PySem.W.mg_none_of X G z_ValueError
  have y_all := PySem.W.mg_none_of X G z_all
  have y_any := PySem.W.mg_none_of X G z_any
  have y_bool := PySem.W.mg_none_of X G z_bool
  have y_divmod := PySem.W.mg_none_of X G z_divmod
  have y_enumerate := PySem.W.mg_none_of X G z_enumerate
  have y_int := PySem.W.mg_none_of X G z_int
  have y_isinstance := PySem.W.mg_none_of X G z_isinstance
  have y_len := PySem.W.mg_none_of X G z_len
  have y_list := PySem.W.mg_none_of X G z_list
  have y_max := PySem.W.mg_none_of X G z_max
  have y_min := PySem.W.mg_none_of X G z_min
  have y_range := PySem.W.mg_none_of X G z_range
  have y_str := PySem.W.mg_none_of X G z_str
  have y_tuple := PySem.W.mg_none_of X G z_tuple
  have y_zip := PySem.W.mg_none_of X G z_zip
  have G_FIGURES : GlD K mg "FIGURES" (.str [48, 49, 50, 51, 52, 53, 54, 55, 56, 57]) := gl_str (PySem.W.mg_of X G n_FIGURES)
  have G_JUMPS : GlD K mg "JUMPS" (.tup [.str [106, 117, 109, 112], .str [122, 101, 114, 111]]) := gl_tup (ss := [[106, 117, 109, 112], [122, 101, 114, 111]]) (its := [.str (sT [106, 117, 109, 112]) gt_JUMPS_0, .str (sT [122, 101, 114, 111]) gt_JUMPS_1]) (PySem.W.mg_of X G n_JUMPS) gk_JUMPS rfl rfl (by simp only [List.length_cons, List.length_nil]; decide) (.cons ⟨_, rfl⟩ (.cons ⟨_, rfl⟩ .nil))
  have G_LETTERS : GlD K mg "LETTERS" (.str [97, 98, 99, 100, 101, 102, 103, 104, 105, 106, 107, 108, 109, 110, 111, 112, 113, 114, 115, 116, 117, 118, 119, 120, 121, 122]) := gl_str (PySem.W.mg_of X G n_LETTERS)
  have G_MOST_LETTERS : GlD K mg "MOST_LETTERS" (.int 8) := gl_int (PySem.W.mg_of X G n_MOST_LETTERS)
  have G_MOST_NUMBER : GlD K mg "MOST_NUMBER" (.int 255) := gl_int (PySem.W.mg_of X G n_MOST_NUMBER)
  have G_MOST_ROWS : GlD K mg "MOST_ROWS" (.int 200) := gl_int (PySem.W.mg_of X G n_MOST_ROWS)
  have G_SPOTS : GlD K mg "SPOTS" (.tup [.str [97], .str [98], .str [99], .str [100]]) := gl_tup (ss := [[97], [98], [99], [100]]) (its := [.str (sT [97]) gt_SPOTS_0, .str (sT [98]) gt_SPOTS_1, .str (sT [99]) gt_SPOTS_2, .str (sT [100]) gt_SPOTS_3]) (PySem.W.mg_of X G n_SPOTS) gk_SPOTS rfl rfl (by simp only [List.length_cons, List.length_nil]; decide) (.cons ⟨_, rfl⟩ (.cons ⟨_, rfl⟩ (.cons ⟨_, rfl⟩ (.cons ⟨_, rfl⟩ .nil))))
  have g_BadRow : mg "BadRow" = some (.ref k_BadRow) := PySem.W.mg_of X G n_BadRow
  have t_BadRow : Top K [66, 97, 100, 82, 111, 119] k_BadRow := n_BadRow
  have g_BadText : mg "BadText" = some (.ref k_BadText) := PySem.W.mg_of X G n_BadText
  have t_BadText : Top K [66, 97, 100, 84, 101, 120, 116] k_BadText := n_BadText
  have g_NoForm : mg "NoForm" = some (.ref k_NoForm) := PySem.W.mg_of X G n_NoForm
  have t_NoForm : Top K [78, 111, 70, 111, 114, 109] k_NoForm := n_NoForm
  have g_NoName : mg "NoName" = some (.ref k_NoName) := PySem.W.mg_of X G n_NoName
  have t_NoName : Top K [78, 111, 78, 97, 109, 101] k_NoName := n_NoName
  have g_NoPlace : mg "NoPlace" = some (.ref k_NoPlace) := PySem.W.mg_of X G n_NoPlace
  have t_NoPlace : Top K [78, 111, 80, 108, 97, 99, 101] k_NoPlace := n_NoPlace
  have g_NoTarget : mg "NoTarget" = some (.ref k_NoTarget) := PySem.W.mg_of X G n_NoTarget
  have t_NoTarget : Top K [78, 111, 84, 97, 114, 103, 101, 116] k_NoTarget := n_NoTarget
  have g_OddError : mg "OddError" = some (.ref k_OddError) := PySem.W.mg_of X G n_OddError
  have t_OddError : Top K [79, 100, 100, 69, 114, 114, 111, 114] k_OddError := n_OddError
  have g_TooFar : mg "TooFar" = some (.ref k_TooFar) := PySem.W.mg_of X G n_TooFar
  have t_TooFar : Top K [84, 111, 111, 70, 97, 114] k_TooFar := n_TooFar
  have g_TooFull : mg "TooFull" = some (.ref k_TooFull) := PySem.W.mg_of X G n_TooFull
  have t_TooFull : Top K [84, 111, 111, 70, 117, 108, 108] k_TooFull := n_TooFull
  have o_BadRow : OexC K k_BadRow := ⟨⟨_, _, _, _, _, _, _, _, _, _, _, _, _, _, _, xl_BadRow, by rfl⟩, xs_BadRow, xe_BadRow, xt_BadRow, xk_BadRow⟩
  have e_BadRow : ErrC K k_BadRow := ⟨o_BadRow, xg_BadRow, xh_BadRow, xd_BadRow, xc_BadRow, xm_BadRow⟩
  have F__BadRow := fun_mk (st := s__BadRow) xq_BadRow xw_BadRow xz_BadRow
  have b__BadRow := F__BadRow.binds (ps := ["self", "row"]) fun _ _ _ _ _ _ us hl => match us, hl with | [_, _], _ => rfl
  have M_BadRow : MkX l.prog w K mg base [66, 97, 100, 82, 111, 119] [114, 111, 119] := MkX.mk' (x := [66, 97, 100, 82, 111, 119]) (f := [114, 111, 119]) g_BadRow o_BadRow xf_BadRow_row xi_BadRow xj_BadRow (init_fn (m := "a row that can not stand") (f := "row") F__BadRow sc__BadRow (fun cdv A outer s H E => pss_cons (ps_expr (pe_oinit (gl_ (by kernel_rfl)) g_OddError os_ or_ oi_ (pa_cons (pv 0) (pa_cons pe_str pa_nil)))) (pss_one (ps_ost (pv 0) (pv 1))))) b__BadRow
  have R_ : Errs K mg rs_ ts_ fl_ := ⟨(List.forall_mem_cons.mpr ⟨⟨k_BadRow, t_BadRow, g_BadRow, e_BadRow⟩, (fun _ h => nomatch h)⟩),
    (List.forall_mem_cons.mpr ⟨⟨k_BadRow, t_BadRow, g_BadRow, xe_BadRow, xt_BadRow, xd_BadRow⟩, (List.forall_mem_cons.mpr ⟨⟨k_BadText, t_BadText, g_BadText, xe_BadText, xt_BadText, xd_BadText⟩, (List.forall_mem_cons.mpr ⟨⟨k_NoForm, t_NoForm, g_NoForm, xe_NoForm, xt_NoForm, xd_NoForm⟩, (List.forall_mem_cons.mpr ⟨⟨k_NoName, t_NoName, g_NoName, xe_NoName, xt_NoName, xd_NoName⟩, (List.forall_mem_cons.mpr ⟨⟨k_NoPlace, t_NoPlace, g_NoPlace, xe_NoPlace, xt_NoPlace, xd_NoPlace⟩, (List.forall_mem_cons.mpr ⟨⟨k_NoTarget, t_NoTarget, g_NoTarget, xe_NoTarget, xt_NoTarget, xd_NoTarget⟩, (List.forall_mem_cons.mpr ⟨⟨k_OddError, t_OddError, g_OddError, xe_OddError, xt_OddError, xd_OddError⟩, (List.forall_mem_cons.mpr ⟨⟨k_TooFar, t_TooFar, g_TooFar, xe_TooFar, xt_TooFar, xd_TooFar⟩, (List.forall_mem_cons.mpr ⟨⟨k_TooFull, t_TooFull, g_TooFull, xe_TooFull, xt_TooFull, xd_TooFull⟩, (fun _ h => nomatch h)⟩)⟩)⟩)⟩)⟩)⟩)⟩)⟩)⟩),
    (List.forall_mem_cons.mpr ⟨(List.forall_mem_cons.mpr ⟨(fun C D hC hD => by cases top_inj hC t_BadRow; cases top_inj hD t_BadRow; exact xb_BadRow_BadRow), (List.forall_mem_cons.mpr ⟨(fun C D hC hD => by cases top_inj hC t_BadRow; cases top_inj hD t_BadText; exact xb_BadRow_BadText), (List.forall_mem_cons.mpr ⟨(fun C D hC hD => by cases top_inj hC t_BadRow; cases top_inj hD t_NoForm; exact xb_BadRow_NoForm), (List.forall_mem_cons.mpr ⟨(fun C D hC hD => by cases top_inj hC t_BadRow; cases top_inj hD t_NoName; exact xb_BadRow_NoName), (List.forall_mem_cons.mpr ⟨(fun C D hC hD => by cases top_inj hC t_BadRow; cases top_inj hD t_NoPlace; exact xb_BadRow_NoPlace), (List.forall_mem_cons.mpr ⟨(fun C D hC hD => by cases top_inj hC t_BadRow; cases top_inj hD t_NoTarget; exact xb_BadRow_NoTarget), (List.forall_mem_cons.mpr ⟨(fun C D hC hD => by cases top_inj hC t_BadRow; cases top_inj hD t_OddError; exact xb_BadRow_OddError), (List.forall_mem_cons.mpr ⟨(fun C D hC hD => by cases top_inj hC t_BadRow; cases top_inj hD t_TooFar; exact xb_BadRow_TooFar), (List.forall_mem_cons.mpr ⟨(fun C D hC hD => by cases top_inj hC t_BadRow; cases top_inj hD t_TooFull; exact xb_BadRow_TooFull), (fun _ h => nomatch h)⟩)⟩)⟩)⟩)⟩)⟩)⟩)⟩)⟩), (fun _ h => nomatch h)⟩),
    (List.forall_mem_cons.mpr ⟨(fun C hC => by cases top_inj hC t_BadRow; exact xv_BadRow), (fun _ h => nomatch h)⟩),
    (List.forall_mem_cons.mpr ⟨(List.forall_mem_cons.mpr ⟨(fun C hC => by cases top_inj hC t_BadRow; exact xf_BadRow_row), (fun _ h => nomatch h)⟩), (fun _ h => nomatch h)⟩), ⟨og_, ot_⟩⟩
  have D__law_begin : Cal l.prog w K mg base 1 "_law_begin" f__law_begin := c__law_begin F__law_begin (PySem.W.mg_of X G m__law_begin) b__law_begin y_list
  have D__law_take : Cal l.prog w K mg base 1 "_law_take" f__law_take := c__law_take F__law_take (PySem.W.mg_of X G m__law_take) b__law_take y_divmod y_len
  have D__law_program : Cal l.prog w K mg base 2 "_law_program" f__law_program := c__law_program F__law_program (PySem.W.mg_of X G m__law_program) b__law_program y_max y_min y_range D__law_take
  have D__law_word : Cal l.prog w K mg base 2 "_law_word" f__law_word := c__law_word F__law_word (PySem.W.mg_of X G m__law_word) b__law_word y_range D__law_take
  have D__law_sheet : Cal l.prog w K mg base 3 "_law_sheet" f__law_sheet := c__law_sheet F__law_sheet (PySem.W.mg_of X G m__law_sheet) b__law_sheet y_len y_list y_range y_str D__law_take D__law_word
  have D__law_many : Cal l.prog w K mg base 2 "_law_many" f__law_many := c__law_many F__law_many (PySem.W.mg_of X G m__law_many) b__law_many D__law_take
  have D__law_is_figures : Cal l.prog w K mg base 1 "_law_is_figures" f__law_is_figures := c__law_is_figures F__law_is_figures (PySem.W.mg_of X G m__law_is_figures) b__law_is_figures y_all y_int y_len
  have D__law_is_name : Cal l.prog w K mg base 1 "_law_is_name" f__law_is_name := c__law_is_name F__law_is_name (PySem.W.mg_of X G m__law_is_name) b__law_is_name y_all y_len
  have D__law_row_told : Cal l.prog w K mg base 2 "_law_row_told" f__law_row_told := c__law_row_told F__law_row_told (PySem.W.mg_of X G m__law_row_told) b__law_row_told y_int y_len y_tuple D__law_is_figures D__law_is_name
  have D__law_read : Cal l.prog w K mg base 3 "_law_read" f__law_read := c__law_read F__law_read (PySem.W.mg_of X G m__law_read) b__law_read y_enumerate y_len D__law_row_told
  have D__law_same : Cal l.prog w K mg base 71 "_law_same" f__law_same := c__law_same F__law_same (PySem.W.mg_of X G m__law_same) b__law_same y_all y_bool y_int y_isinstance y_len y_list y_str y_tuple y_zip 70
  have D_Reading____init__ : Ini l.prog w K mg base 1 [82, 101, 97, 100, 105, 110, 103] f_Reading____init__ := c_Reading____init__ F_Reading____init__ on_Reading (PySem.W.mg_of X G on_Reading) ⟨omk_Reading, mm_Reading____init__, mf_Reading____init__, okp_Reading⟩ b_Reading____init__ I_Reading
  have D_Reading__program : CalM l.prog w K mg base 1 [82, 101, 97, 100, 105, 110, 103] [112, 114, 111, 103, 114, 97, 109] f_Reading__program := c_Reading__program F_Reading__program on_Reading lc_Reading ⟨mm_Reading__program, mf_Reading__program, k_Reading__program⟩ b_Reading__program I_Reading G_JUMPS
  have D_is_name : Cal l.prog w K mg base 1 "is_name" f_is_name := c_is_name F_is_name (PySem.W.mg_of X G m_is_name) b_is_name y_isinstance y_len y_str G_LETTERS G_MOST_LETTERS
  have D_label_in : Cal l.prog w K mg base 2 "label_in" f_label_in := c_label_in F_label_in (PySem.W.mg_of X G m_label_in) b_label_in y_len D_is_name
  have D_labels_in : Cal l.prog w K mg base 3 "labels_in" f_labels_in := c_labels_in F_labels_in (PySem.W.mg_of X G m_labels_in) b_labels_in D_label_in
  have D_is_number_told : Cal l.prog w K mg base 1 "is_number_told" f_is_number_told := c_is_number_told F_is_number_told (PySem.W.mg_of X G m_is_number_told) b_is_number_told y_int y_len G_FIGURES G_MOST_NUMBER
  have D_row_with_spot : Cal l.prog w K mg base 2 "row_with_spot" f_row_with_spot := c_row_with_spot F_row_with_spot (PySem.W.mg_of X G m_row_with_spot) b_row_with_spot y_int y_len D_is_number_told D_is_name G_SPOTS
  have D_row_of : Cal l.prog w K mg base 3 "row_of" f_row_of := c_row_of F_row_of (PySem.W.mg_of X G m_row_of) b_row_of y_len D_row_with_spot D_is_name
  have D_Reading__take_row : CalM l.prog w K mg base 4 [82, 101, 97, 100, 105, 110, 103] [116, 97, 107, 101, 95, 114, 111, 119] f_Reading__take_row := c_Reading__take_row F_Reading__take_row on_Reading lc_Reading ⟨mm_Reading__take_row, mf_Reading__take_row, k_Reading__take_row⟩ b_Reading__take_row y_len D_label_in D_row_of I_Reading G_JUMPS G_MOST_ROWS
  have D_read_program : Cal l.prog w K mg base 5 "read_program" f_read_program := c_read_program F_read_program (PySem.W.mg_of X G m_read_program) b_read_program y_enumerate D_Reading____init__ D_Reading__program D_labels_in D_Reading__take_row I_Reading M_BadRow
  have D__law_signs : Cal l.prog w K mg base 1 "_law_signs" f__law_signs := c__law_signs F__law_signs (PySem.W.mg_of X G m__law_signs) b__law_signs 
  have D__law_spelt : Cal l.prog w K mg base 2 "_law_spelt" f__law_spelt := c__law_spelt F__law_spelt (PySem.W.mg_of X G m__law_spelt) b__law_spelt y_len D__law_take D__law_signs
  have D__law_line_spelt : Cal l.prog w K mg base 2 "_law_line_spelt" f__law_line_spelt := c__law_line_spelt F__law_line_spelt (PySem.W.mg_of X G m__law_line_spelt) b__law_line_spelt y_len D__law_take
  have D__law_refused : Cal l.prog w K mg base 6 "_law_refused" f__law_refused := c__law_refused F__law_refused (PySem.W.mg_of X G m__law_refused) b__law_refused y_ValueError y_any y_isinstance D_read_program R_
  refine law_ok (fn_ok F_law sc_law (by decide) fun cdv A outer s H E hr => ?_) hlaw
  exact b_ok_law F_law y_range D__law_begin D__law_program D__law_sheet D__law_take D__law_many D__law_read D__law_same D_read_program D__law_spelt D__law_line_spelt D__law_refused hr
end OdW
namespace OdW
open PySem PySem.Spec L2 Od
open PyProof.Rows hiding St cutD
open Od (Env)
private def odB := And.intro @sat_ok (And.intro @sat_exc (And.intro @sat_fail (And.intro @ex_some (And.intro @ex_none (And.intro @s_eC (And.intro @s_eV (And.intro @s_hSc (And.intro @s_hV (And.intro @s_eFz (And.intro @s_tSh (And.intro @s_e1 (And.intro @s_e2 (And.intro @s_t2 (And.intro @s_b2 (And.intro @ex_blOf (And.intro @s_vL0 (And.intro @s_vL (And.intro @s_hL0 (And.intro @s_hL (And.intro @ex_getL0 (And.intro @ex_getL (And.intro @s_eTup (And.intro @s_tLst (And.intro @s_eCB (And.intro @s_tCBL (And.intro @s_eIsi (And.intro @s_oN (And.intro @s_oS (And.intro @s_eCut (And.intro @s_tCut (And.intro @s_bVal (And.intro @s_bNot (And.intro @s_bAnd (And.intro @s_bOr (And.intro @s_eIf (And.intro @s_eAnd (And.intro @s_eOr (And.intro @s_eNot (And.intro @s_eChain (And.intro @s_bChain (And.intro @s_aL0 (And.intro @s_aLv (And.intro @s_aLi (And.intro @ex_mkT0 (And.intro @ex_mkTv (And.intro @ex_mkTi (And.intro @s_nil (And.intro @s_expr (And.intro @s_ret (And.intro @s_retV (And.intro @s_if (And.intro @s_asg (And.intro @ex_gTp (And.intro @ex_gE0 (And.intro @ex_gE (And.intro @s_fld (And.intro @s_flen (And.intro @s_fix (And.intro @s_rcd2 (And.intro @s_iArg (And.intro @s_iSeq (And.intro @s_for (And.intro @s_comp (And.intro @s_bTrue (And.intro @x_addbi (And.intro @x_addii (And.intro @x_addss (And.intro @x_addtt (And.intro @x_addll (And.intro @x_lAdd (And.intro @x_sub (And.intro @x_mul (And.intro @x_fdiv (And.intro @x_mod (And.intro @x_pow (And.intro @x_neg (And.intro @x_eqi (And.intro @x_eqs (And.intro @x_eqb (And.intro @x_nei (And.intro @x_nes (And.intro @x_neb (And.intro @x_lt (And.intro @x_lts (And.intro @x_le (And.intro @x_gt (And.intro @x_ge (And.intro @x_isN0 (And.intro @x_isNi (And.intro @x_isNb (And.intro @x_isNs (And.intro @x_isNt (And.intro @x_isNl (And.intro @x_noN0 (And.intro @x_noNi (And.intro @x_noNb (And.intro @x_noNs (And.intro @x_noNt (And.intro @x_noNl (And.intro @x_ixl (And.intro @x_ixt (And.intro @x_ixr (And.intro @x_ixs (And.intro @x_lens (And.intro @x_lenl (And.intro @x_lent (And.intro @x_lenr (And.intro @x_max2 (And.intro @x_min2 (And.intro @x_dm (And.intro @x_listl (And.intro @x_listr (And.intro @x_listt (And.intro @x_tupl (And.intro @x_tupt (And.intro @x_cutl (And.intro @x_cutt (And.intro @x_cutr (And.intro @x_cuts (And.intro @x_lcutl (And.intro @x_lcutr (And.intro @x_app (And.intro @x_sw (And.intro @x_ew (And.intro @x_join (And.intro @x_frs (And.intro @x_frl (And.intro @x_frd (And.intro @x_rng1 (And.intro @x_zip2t (And.intro @x_zip2l (And.intro @x_enu (And.intro @x_seql (And.intro @x_seqr (And.intro @x_int (And.intro @x_bl (And.intro @x_gC (And.intro @x_gT (And.intro @c_pad0 (And.intro @c_padn (And.intro @c_pads (And.intro @k_set0 (And.intro @k_sets (And.intro @c_set0 (And.intro @c_sets (And.intro @c_wipe0 (And.intro @c_wipes (And.intro @c_back0 (And.intro @c_backs (And.intro @c_mask0 (And.intro @c_maskt (And.intro @c_maskf (And.intro @c_putB0 (And.intro @c_putBv (And.intro @c_putBi (And.intro @c_getD0 (And.intro @c_getDs (And.intro @c_shE1 (And.intro @c_shE0 (And.intro @c_shEl (And.intro @k_lkS0 (And.intro @k_lkSs (And.intro @k_lkF0 (And.intro @k_lkF0l (And.intro @k_lkFs (And.intro @k_lkT0 (And.intro @k_lkTs (And.intro @k_lkL0 (And.intro @k_lkLs (And.intro @k_rcd0 (And.intro @k_rcds (And.intro @k_atH0 (And.intro @k_atH0l (And.intro @k_atH0d (And.intro @k_atHs (And.intro @k_getHv (And.intro @k_getHs (And.intro @m_eFv (And.intro @m_tMv (And.intro @m_eMut (And.intro @m_eCall (And.intro @m_set (And.intro @m_setV (And.intro @m_wipe (And.intro @m_par (And.intro @m_gNm (And.intro @m_sFld (And.intro @m_gfix (And.intro @m_fn (And.intro @c_sFC (And.intro @c_sFT (And.intro @m_eBM (And.intro @m_tBML (And.intro @k_tyS (And.intro @k_tyL (And.intro @k_tyR (And.intro @k_tyD (And.intro @x_at0 (And.intro @x_at1 (And.intro @x_at2 (And.intro @x_isi_int_non (And.intro @x_isi_int_bl (And.intro @x_isi_int_int (And.intro @x_isi_int_str (And.intro @x_isi_int_tup (And.intro @x_isi_int_lst (And.intro @x_isi_int_dct (And.intro @x_isi_bool_non (And.intro @x_isi_bool_bl (And.intro @x_isi_bool_int (And.intro @x_isi_bool_str (And.intro @x_isi_bool_tup (And.intro @x_isi_bool_lst (And.intro @x_isi_bool_dct (And.intro @x_isi_str_non (And.intro @x_isi_str_bl (And.intro @x_isi_str_int (And.intro @x_isi_str_str (And.intro @x_isi_str_tup (And.intro @x_isi_str_lst (And.intro @x_isi_str_dct (And.intro @x_isi_list_non (And.intro @x_isi_list_bl (And.intro @x_isi_list_int (And.intro @x_isi_list_str (And.intro @x_isi_list_tup (And.intro @x_isi_list_lst (And.intro @x_isi_list_dct (And.intro @x_isi_tuple_non (And.intro @x_isi_tuple_bl (And.intro @x_isi_tuple_int (And.intro @x_isi_tuple_str (And.intro @x_isi_tuple_tup (And.intro @x_isi_tuple_lst (And.intro @x_isi_tuple_dct (And.intro @x_isi_dict_non (And.intro @x_isi_dict_bl (And.intro @x_isi_dict_int (And.intro @x_isi_dict_str (And.intro @x_isi_dict_tup (And.intro @x_isi_dict_lst (And.intro @x_isi_dict_dct (And.intro @x_isi_listtuple_non (And.intro @x_isi_listtuple_bl (And.intro @x_isi_listtuple_int (And.intro @x_isi_listtuple_str (And.intro @x_isi_listtuple_tup (And.intro @x_isi_listtuple_lst (And.intro @x_isi_listtuple_dct (And.intro @s_iStr (And.intro @s_iTup (And.intro @s_raise1 (And.intro @s_try (And.intro @x_isE (And.intro @x_fldE (And.intro @x_lkX1 (And.intro @x_exnD1 (And.intro @x_exnD0 (And.intro @x_isNe (And.intro @x_noNe (And.intro @x_intS (And.intro @s_d0 (And.intro @k_lkDc0 (And.intro @k_lkDcs (And.intro @m_gDx (And.intro @x_keyi (And.intro @x_keys (And.intro @s_parN (And.intro @s_parMc (And.intro @s_parMn (And.intro @c_app0 (And.intro @c_app1 (And.intro @c_app2 (And.intro @c_app3 (And.intro @x_sets0 (And.intro @x_setsc (And.intro @x_repS (And.intro @x_ixdi (And.intro @x_str (And.intro @x_strip (And.intro @s_tDsp (And.intro @k_at0 (And.intro @k_at1 (And.intro @k_at2 (And.intro @k_at3 (And.intro @x_in2 (And.intro @s_eNew (And.intro @x_newP (And.intro @k_ins0 (And.intro @k_inss (And.intro @k_getS1 (And.intro @k_getS2 (And.intro @s_eFldI (And.intro @s_sFldI (And.intro @s_eCallM (And.intro @x_fldO (And.intro @x_split (And.intro @x_sci (And.intro @x_scb (And.intro @x_scs (And.intro @x_scn (And.intro @s_tseq (And.intro @s_seqMc (And.intro @s_seqMn (And.intro @x_t1s (And.intro @x_t1l (And.intro @x_t1d (And.intro @x_upss (And.intro @x_upsl (And.intro @x_upsd (And.intro @k_frzQ (And.intro @k_frzQT (And.intro @k_uat0 (And.intro @k_uats (And.intro @x_get1s (And.intro @x_get1i (And.intro @x_get2s (And.intro @x_get2i (And.intro @s_lend3 (And.intro @s_blend3 (And.intro @s_tlend3 (And.intro @c_fri0 (And.intro @c_fri1 (And.intro @c_frin (And.intro @c_fris (And.intro @c_fril (And.intro @c_frid (And.intro @c_frir (And.intro @c_friq (And.intro @c_friQ (And.intro @c_frii (And.intro @x_lkXD (And.intro @k_getD11 (And.intro @k_getD12 (And.intro @k_insL0 (And.intro @k_insLs (And.intro @k_getL11 (And.intro @k_getL12 (And.intro @s_eMutF (And.intro @s_sFldIO (And.intro @x_t1Os (And.intro @x_t1Ol (And.intro @x_t1Od (And.intro @s_eCallMS (And.intro @k_insD0 (And.intro @k_insDs (And.intro @k_getD21 (And.intro @k_getD22 (And.intro @m_gDxF (And.intro @x_listk @x_lendct))))))))))))))))))))))))))))))))))))))))))))))))))))))))))))))))))))))))))))))))))))))))))))))))))))))))))))))))))))))))))))))))))))))))))))))))))))))))))))))))))))))))))))))))))))))))))))))))))))))))))))))))))))))))))))))))))))))))))))))))))))))))))))))))))))))))))))))))))))))))))))))))))))))))))))))))))))))))))))))))))))))))))))))))))))))))))))))
local macro_rules | `(tactic| array_get_dec) => `(tactic| try simp -implicitDefEqProofs only [↓s_seq, ↓odB])
local macro_rules | `(tactic| sizeOf_list_dec) => `(tactic| try simp -implicitDefEqProofs only [↓s_seq, ↓odB, Bool.false_eq_true, Bool.true_eq_false, false_implies, true_implies, forall_const, true_and, and_true, decide_eq_true_eq, decide_eq_false_iff_not, Bool.not_true, Bool.not_false, Bool.not_eq_true', Bool.not_eq_false', Int.not_lt, Int.not_le, implies_true])
local macro_rules | `(tactic| array_mem_dec) => `(tactic| try simp -implicitDefEqProofs only [↓odB, Bool.false_eq_true, Bool.true_eq_false, false_implies, true_implies, forall_const, true_and, and_true, decide_eq_true_eq, decide_eq_false_iff_not, Bool.not_true, Bool.not_false, Bool.not_eq_true', Bool.not_eq_false', Int.not_lt, Int.not_le, implies_true])
local macro_rules | `(tactic| simp_wf) => `(tactic| try simp -implicitDefEqProofs only [↓s_seq, ↓odB, Bool.false_eq_true, Bool.true_eq_false, false_implies, true_implies, forall_const, true_and, and_true, decide_eq_true_eq, decide_eq_false_iff_not, Bool.not_true, Bool.not_false, Bool.not_eq_true', Bool.not_eq_false', Int.not_lt, Int.not_le, implies_true, List.cons.injEq, Nat.reduceEqDiff, reduceCtorEq, not_true_eq_false, not_false_eq_true, and_self, and_false, false_and, or_false, false_or, or_true, true_or, or_self, if_true, if_false, List.nil_append, List.cons_append])
local macro_rules | `(tactic| and_intros) => `(tactic| repeat (refine And.intro (by first | rfl | decide | omega | exact okMul_r (by omega) (by omega) | exact okMul_l (by omega) (by omega) | (simp; done) | (simp; omega)) ?_))
abbrev Fs := List (Tx × T1)
def Bx (n : Nat) (fs : List (Tx × T1)) : Prop := ∃ (cs : List Int) (t : Int), fs = [([99, 101, 108, 108, 115], .lst (cs.map .int)), ([116, 117, 114, 110], .sh (.int t))] ∧ cs ≠ [] ∧ 0 ≤ t ∧ t + n ≤ 1000000000
theorem take_ok {n : Nat} {m : Int} {fs : List (Tx × T1)} {Φ : T → Od.Env → Prop} {Ψ : Exn → Od.Env → Prop} (hb : Bx n fs) (hn : 1 ≤ n) (hm : 0 < m) (hm' : m < 1073741824)
    (q : ∀ (r : Int) fs', 0 ≤ r → r < m → Bx (n - 1) fs' → Φ (.sh (.int r)) [some (.rcd fs'), none]) : satO (f__law_take [T.rcd fs, .sh (.int m)]) Φ Ψ := by
  obtain ⟨cs, t, rfl, hc, ht, hs⟩ := hb
  simp only [f__law_take, B__law_take]
  array_get_dec
  have hl : 0 < ((cs.map D.int).length : Int) := by
    cases cs with
    | nil => exact absurd rfl hc
    | cons c r => simp
  have b1 := Int.emod_nonneg (t + 1) (show ((cs.map D.int).length : Int) ≠ 0 by omega)
  have b2 := Int.emod_lt_of_pos (t + 1) hl
  refine ⟨rfl, by simp, hl, atI_ok b1 b2 fun d hd => ?_⟩
  obtain ⟨c, hc', rfl⟩ := List.mem_map.mp (List.mem_of_getElem? hd)
  array_get_dec
  refine ⟨by decide, fun _ => ⟨⟨hm, hm'⟩, ⟨b1, b2⟩, ?_⟩, fun _ => ?_⟩
  · refine q _ _ (Int.emod_nonneg _ (by omega)) (Int.emod_lt_of_pos _ hm) ⟨cs.set ((t + 1) % ((cs.map D.int).length : Int)).toNat (c / m), t + 1, by rw [List.map_set], ?_, by omega, by omega⟩
    intro z
    have := congrArg List.length z
    simp at this
    exact hc this
  · refine ⟨by decide, okMul_l (by omega) (by omega), okMul_r (by omega) (by omega), okMul_r (by omega) (by omega), by decide, okMul_l (by omega) (by omega), by decide, okMul_l (by omega) (by omega), okMul_r (by omega) (by omega), by decide, by decide, hm, ?_⟩
    exact q _ _ (Int.emod_nonneg _ (by omega)) (Int.emod_lt_of_pos _ hm) ⟨cs, t + 1, rfl, hc, by omega, by omega⟩
/-- one statement, then the rest -/
theorem seq_cut {S S' : SM} {ρ : Od.Env} {ΦS : Fl → Prop} {Ψ : Exn → Od.Env → Prop} (M : Od.Env → Prop) (h1 : sat (S ρ) (fun f => match f with | .nx ρ1 => M ρ1 | r => ΦS r) Ψ) (h2 : ∀ ρ1, M ρ1 → sat (S' ρ1) ΦS Ψ) : sat (sSeq S S' ρ) ΦS Ψ := by
  rw [s_seq]
  refine h1.mono fun f h => ?_
  cases f with
  | nx ρ1 => exact h2 ρ1 h
  | rt t ρ1 => exact h
  | bk ρ1 => exact h
  | ct ρ1 => exact h
/-- data that == reads: how deep at most -/
def Ck (k : Nat) (d : D) : Prop := d.ok = true ∧ d.dep ≤ k
theorem Ck.mono {j k : Nat} {d : D} (h : Ck j d) (hk : j ≤ k) : Ck k d := ⟨h.1, Nat.le_trans h.2 hk⟩
theorem okI_of {j : Int} (h : -1000000000 ≤ j) (h' : j ≤ 1000000000) : okI j = true := by unfold okI; rw [decide_eq_true h, decide_eq_true h']; rfl
/-- clean data, not too great to be shown -/
structure Th (k B : Nat) (d : D) : Prop where
  o : d.ok = true
  g : gdD d = true
  p : d.dep ≤ k
  w : d.shW ≤ B
structure ThL (k B : Nat) (ds : List D) : Prop where
  o : D.okL ds = true
  g : gdL ds = true
  p : D.depL ds ≤ k
  w : D.shWL ds ≤ B
section
variable {k j A B C : Nat} {d : D} {ds es : List D}
theorem Th.mono (h : Th j A d) (a : j ≤ k) (b : A ≤ B) : Th k B d := ⟨h.o, h.g, Nat.le_trans h.p a, Nat.le_trans h.w b⟩
theorem ThL.mono (h : ThL j A ds) (a : j ≤ k) (b : A ≤ B) : ThL k B ds := ⟨h.o, h.g, Nat.le_trans h.p a, Nat.le_trans h.w b⟩
end
theorem join1 : ∀ s : Tx, joinT [] (s.map fun c => [c]) = s
  | [] => rfl
  | [c] => rfl
  | c :: d :: r => by
    have := join1 (d :: r)
    simp only [List.map_cons] at this ⊢
    show [c] ++ [] ++ joinT [] _ = _
    rw [this]; rfl
theorem sum1 : ∀ s : Tx, ((s.map fun c => [c]).map List.length).sum = s.length
  | [] => rfl
  | c :: r => by
    have := sum1 r
    simp only [List.map_cons, List.sum_cons, List.length_cons, List.length_nil] at this ⊢
    omega
/-- == of lists of texts -/
theorem eqvAll_strs : ∀ xs ys : List Tx, PyData.eqvAll (D.pyL (xs.map .str)) (D.pyL (ys.map .str)) = decide (xs = ys)
  | [], [] => rfl
  | [], _ :: _ => by simp [D.pyL, PyData.eqvAll]
  | _ :: _, [] => by simp [D.pyL, PyData.eqvAll]
  | x :: xs, y :: ys => by
    show ((sT x == sT y) && PyData.eqvAll (D.pyL (xs.map .str)) (D.pyL (ys.map .str))) = _
    rw [eqvAll_strs xs ys, sT_beq]
    by_cases h : x = y <;> by_cases g : xs = ys <;> simp [h, g]
def asc (s : Tx) : Prop := ∀ c ∈ s, c ≤ 127
theorem strs_ck {xs : List Tx} (h : ∀ s ∈ xs, asc s) : dOk (.lst (xs.map .str)) := dOk_lst (k := 0) (fun x hx => ok_str (h x hx) (by decide)) (fun _ _ => Nat.le_refl _) (by decide)
theorem fEq_strs {xs ys : List Tx} (h : ∀ s ∈ xs, asc s) (h' : ∀ s ∈ ys, asc s) {Φ : Bool → Prop} (q : Φ (decide (xs = ys))) : ex (fEq (.lst (xs.map .str)) (.lst (ys.map .str))) Φ := by
  rw [fEq_lst (strs_ck h) (strs_ck h')]
  show Φ (PyData.eqvAll (D.pyL (xs.map .str)) (D.pyL (ys.map .str)))
  rw [eqvAll_strs]; exact q
def abc : Tx := [97, 98, 99, 100, 101, 102, 103, 104, 105, 106, 107, 108, 109, 110, 111, 112, 113, 114, 115, 116, 117, 118, 119, 120, 121, 122]
def wSet : Tx := [115, 101, 116]
def wAdd : Tx := [97, 100, 100]
def wTake : Tx := [116, 97, 107, 101]
def wTell : Tx := [116, 101, 108, 108]
def wAsk : Tx := [97, 115, 107]
def wStop : Tx := [115, 116, 111, 112]
def wJump : Tx := [106, 117, 109, 112]
def wZero : Tx := [122, 101, 114, 111]
/-- rows of a program -/
inductive PRow where
  | set (s n : Nat) | two (w : Bool) (s t : Nat) | one (w : Bool) (s : Nat) | stop | jump (a : Nat) | zero (s a : Nat)
def spB (s : Nat) : Prop := 97 ≤ s ∧ s ≤ 100
def PRow.ok (m : Nat) : PRow → Prop
  | .set s n => spB s ∧ n ≤ 255
  | .two _ s t => spB s ∧ spB t
  | .one _ s => spB s
  | .stop => True
  | .jump a => a ≤ m
  | .zero s a => spB s ∧ a ≤ m
def wTwo (w : Bool) : Tx := if w then wTake else wAdd
def wOne (w : Bool) : Tx := if w then wAsk else wTell
def PRow.d : PRow → D
  | .set s n => .tup [.str wSet, .str [s], .int n]
  | .two w s t => .tup [.str (wTwo w), .str [s], .str [t]]
  | .one w s => .tup [.str (wOne w), .str [s]]
  | .stop => .tup [.str wStop]
  | .jump a => .tup [.str wJump, .int a]
  | .zero s a => .tup [.str wZero, .str [s], .int a]
def progD (rs : List PRow) : D := .lst (rs.map PRow.d)
def natsD (xs : List Nat) : List D := xs.map fun x => .int (x : Nat)
/-! a text taken apart at a sign -/
def spl (c : Nat) : Tx → List Tx
  | [] => [[]]
  | x :: r => if x = c then [] :: spl c r else match spl c r with
    | [] => [[x]]
    | h :: t => (x :: h) :: t
theorem spl_ne (c : Nat) : ∀ a : Tx, spl c a ≠ []
  | [] => by simp [spl]
  | x :: r => by
    unfold spl
    split
    · simp
    · split <;> simp
theorem spl_free (c : Nat) : ∀ a : Tx, ∀ p ∈ spl c a, c ∉ p
  | [], p, h => by
    have : p = [] := by simpa [spl] using h
    rw [this]; simp
  | x :: r, p, h => by
    have ih := spl_free c r
    unfold spl at h
    split at h
    · rcases List.mem_cons.mp h with rfl | h
      · simp
      · exact ih p h
    · rename_i hx
      split at h
      · have : p = [x] := by simpa using h
        rw [this]; simpa using fun z => hx z.symm
      · rename_i y t e
        rcases List.mem_cons.mp h with rfl | h
        · have := ih y (by rw [e]; simp)
          simp only [List.mem_cons, not_or]
          exact ⟨fun z => hx z.symm, this⟩
        · exact ih p (by rw [e]; exact List.mem_cons_of_mem _ h)
theorem joinT_cons (c : Nat) (x : Tx) {xs : List Tx} (h : xs ≠ []) : joinT [c] (x :: xs) = x ++ c :: joinT [c] xs := by
  cases xs with
  | nil => exact absurd rfl h
  | cons y ys => show x ++ [c] ++ joinT [c] (y :: ys) = _; simp
theorem spl_app (c : Nat) : ∀ (x : Tx) (b : Tx), c ∉ x → spl c (x ++ c :: b) = x :: spl c b
  | [], b, _ => by
    show spl c (c :: b) = _
    rw [spl, if_pos rfl]
  | y :: x, b, h => by
    have h1 : ¬ y = c := fun z => h (by rw [z]; simp)
    have h2 : c ∉ x := fun z => h (List.mem_cons_of_mem _ z)
    rw [List.cons_append, spl, if_neg h1, spl_app c x b h2]
theorem spl_one (c : Nat) : ∀ x : Tx, c ∉ x → spl c x = [x]
  | [], _ => rfl
  | y :: x, h => by
    have h1 : ¬ y = c := fun z => h (by rw [z]; simp)
    have h2 : c ∉ x := fun z => h (List.mem_cons_of_mem _ z)
    rw [spl, if_neg h1, spl_one c x h2]
theorem spl_join (c : Nat) : ∀ xs : List Tx, xs ≠ [] → (∀ p ∈ xs, c ∉ p) → spl c (joinT [c] xs) = xs
  | [], h, _ => absurd rfl h
  | [x], _, h => spl_one c x (h x (by simp))
  | x :: y :: r, _, h => by
    rw [joinT_cons c x (by simp), spl_app c x _ (h x (by simp)), spl_join c (y :: r) (by simp) fun p hp => h p (List.mem_cons_of_mem _ hp)]
theorem join_str (c : Nat) : ∀ ys : List Tx, Str.join (sT [c]) (ys.map sT) = sT (joinT [c] ys)
  | [] => rfl
  | [x] => rfl
  | x :: y :: r => by
    have ih := join_str c (y :: r)
    show sT x ++ sT [c] ++ Str.join (sT [c]) (List.map sT (y :: r)) = _
    rw [ih, sT_app, sT_app]; rfl
theorem splitL_eq (a : Tx) (c : Nat) : splitL a [c] = spl c a := by
  have e1 : sT [c] = ⟨#[c]⟩ := rfl
  have hm : (splitL a [c]).map sT = Txt.split (sT a) (sT [c]) := by
    unfold splitL
    rw [List.map_map]
    conv => rhs; rw [← List.map_id (Txt.split (sT a) (sT [c]))]
    exact List.map_congr_left fun s _ => sT_of s
  have hj : joinT [c] (splitL a [c]) = a := by
    have := StrLaws.join_split (sT a) (sT [c])
    rw [← hm, join_str] at this
    exact sT_inj this
  have hf : ∀ p ∈ splitL a [c], c ∉ p := by
    intro p hp
    have h2 : sT p ∈ Txt.split (sT a) ⟨#[c]⟩ := by rw [← e1, ← hm]; exact List.mem_map.mpr ⟨p, hp, rfl⟩
    have := StrLaws.split_free (sT a) c _ h2
    rwa [sT_cps] at this
  have hn : splitL a [c] ≠ [] := by
    intro z
    have := split_pos (sT a) (sT [c])
    rw [← hm, z] at this
    exact absurd this (by decide)
  rw [← spl_join c _ hn hf, hj]
theorem join_spl (a : Tx) (c : Nat) : joinT [c] (spl c a) = a := by
  have hm : (splitL a [c]).map sT = Txt.split (sT a) (sT [c]) := by
    unfold splitL
    rw [List.map_map]
    conv => rhs; rw [← List.map_id (Txt.split (sT a) (sT [c]))]
    exact List.map_congr_left fun s _ => sT_of s
  have := StrLaws.join_split (sT a) (sT [c])
  rw [← hm, join_str] at this
  rw [← splitL_eq]
  exact sT_inj this
theorem spl_len (c : Nat) : ∀ a : Tx, ((spl c a).map List.length).sum + (spl c a).length = a.length + 1
  | [] => rfl
  | x :: r => by
    have ih := spl_len c r
    unfold spl
    split
    · simp only [List.map_cons, List.sum_cons, List.length_cons, List.length_nil]; omega
    · cases e : spl c r with
      | nil => exact absurd e (spl_ne c r)
      | cons h t =>
        rw [e] at ih
        simp only [List.map_cons, List.sum_cons, List.length_cons] at ih ⊢
        omega
theorem mem_spl (c : Nat) : ∀ a : Tx, ∀ p ∈ spl c a, ∀ x ∈ p, x ∈ a
  | [], p, h, x, hx => by
    have : p = [] := by simpa [spl] using h
    rw [this] at hx; cases hx
  | y :: r, p, h, x, hx => by
    have ih := mem_spl c r
    unfold spl at h
    split at h
    · rcases List.mem_cons.mp h with rfl | h
      · cases hx
      · exact List.mem_cons_of_mem _ (ih p h x hx)
    · split at h
      · rename_i e; exact absurd e (spl_ne c r)
      · rename_i z t e
        rcases List.mem_cons.mp h with rfl | h
        · rcases List.mem_cons.mp hx with rfl | hx
          · simp
          · exact List.mem_cons_of_mem _ (ih z (by rw [e]; simp) x hx)
        · exact List.mem_cons_of_mem _ (ih p (by rw [e]; exact List.mem_cons_of_mem _ h) x hx)
theorem spl_plen (c : Nat) (a : Tx) : ∀ p ∈ spl c a, p.length ≤ a.length := by
  intro p hp
  have h := spl_len c a
  have h1 : p.length ≤ ((spl c a).map List.length).sum := by
    have : ∀ l : List Nat, ∀ x ∈ l, x ≤ l.sum := by
      intro l
      induction l with
      | nil => intro x hx; cases hx
      | cons y l ih =>
        intro x hx
        rw [List.sum_cons]
        rcases List.mem_cons.mp hx with rfl | hx
        · omega
        · have := ih x hx; omega
    exact this _ _ (List.mem_map.mpr ⟨p, hp, rfl⟩)
  have h2 : 1 ≤ (spl c a).length := List.length_pos_iff.mpr (spl_ne c a)
  omega
/-! sheets: what their rows tell, and how they are read -/
def nmB (s : Tx) : Bool := decide (1 ≤ s.length) && decide (s.length ≤ 8) && s.all fun c => abc.contains c
theorem stripL_all (b a : Tx) : decide (stripL b a = []) = a.all fun c => b.contains c := by
  rw [Bool.eq_iff_iff, decide_eq_true_eq, stripL_nil, List.all_eq_true]
  simp
def spots4 : List Tx := [[97], [98], [99], [100]]
def figs10 : Tx := [48, 49, 50, 51, 52, 53, 54, 55, 56, 57]
/-- a number of a set row -/
def numB (w : Tx) : Bool := decide (1 ≤ w.length) && decide (w.length ≤ 3) && (w.all fun c => figs10.contains c) && (decide (w = [48]) || !([48] : Tx).isPrefixOf w) && decide (NumText.digitsVal w ≤ 255)
/-- a row as read, a jump's goal by its name -/
structure SR where
  ps : List D
  g : Option Tx
def SR.ds (r : SR) : List D := r.ps ++ (match r.g with | some n => [.str n] | none => [])
def SR.d (r : SR) : D := .tup r.ds
def rowOf : List Tx → Option SR
  | [w] => if w = wStop then some ⟨[.str wStop], none⟩ else none
  | [w, s] => if w = wJump then (if nmB s = true then some ⟨[.str wJump], some s⟩ else none) else if spots4.contains s = true ∧ (w = wTell ∨ w = wAsk) then some ⟨[.str w, .str s], none⟩ else none
  | [w, s, t] => if w = wJump then none else if spots4.contains s = true then
      (if w = wSet then (if numB t = true then some ⟨[.str w, .str s, .int (NumText.digitsVal t : Nat)], none⟩ else none)
      else if w = wAdd ∨ w = wTake then (if spots4.contains t = true then some ⟨[.str w, .str s, .str t], none⟩ else none)
      else if w = wZero then (if nmB t = true then some ⟨[.str w, .str s], some t⟩ else none) else none) else none
  | _ => none
def labOf : List Tx → Option Tx
  | [w] => if ([58] : Tx).isSuffixOf w = true ∧ nmB (w.take (w.length - 1)) = true then some (w.take (w.length - 1)) else none
  | _ => none
/-- all labels of some rows -/
def labs (ts : List Tx) : List Tx := ts.filterMap fun t => labOf (spl 32 t)
/-- what is read so far -/
structure Rg where
  rows : List SR
  ns : List Tx
  ps : List Nat
def takeR (known : List Tx) (st : Rg) (ws : List Tx) : Option Rg := match labOf ws with
  | some n => if n ∈ st.ns then none else some { st with ns := st.ns ++ [n], ps := st.ps ++ [st.rows.length] }
  | none => match rowOf ws with
    | none => none
    | some r => if st.rows.length = 200 then none else match r.g with
      | some n => if n ∈ known then some { st with rows := st.rows ++ [r] } else none
      | none => some { st with rows := st.rows ++ [r] }
def readR (known : List Tx) : List Tx → Rg → Nat → Except Nat Rg
  | [], st, _ => .ok st
  | t :: ts, st, i => if t = [] then readR known ts st (i + 1) else match takeR known st (spl 32 t) with
    | none => .error i
    | some st' => readR known ts st' (i + 1)
/-- a label's place -/
def lookR (st : Rg) (n : Tx) : Nat := ((st.ns.zip st.ps).find? fun p => decide (p.1 = n)).elim 0 Prod.snd
def progOf (st : Rg) (r : SR) : D := match r.g with
  | some n => .tup (r.ps ++ [.int (lookR st n : Nat)])
  | none => .tup r.ps
/-- a row as it is written in a program: its word a jump's just where it has a goal -/
def SR.fine (r : SR) : Prop := r.ps.length ≤ 3 ∧ ∃ (w : Tx) (qs : List D), r.ps = .str w :: qs ∧ (r.g.isSome = decide (w = wJump ∨ w = wZero)) ∧ (∀ d ∈ qs, scalD d = true)
theorem rowOf_fine {ws : List Tx} {r : SR} (h : rowOf ws = some r) : r.fine := by
  unfold rowOf at h
  split at h
  · split at h
    · cases h; exact ⟨by decide, wStop, [], rfl, by decide, fun _ z => by cases z⟩
    · cases h
  · rename_i w s
    split at h
    · split at h
      · cases h; exact ⟨by show 1 ≤ 3; decide, wJump, [], rfl, by simp [wJump], fun _ z => by cases z⟩
      · cases h
    · rename_i hj
      split at h
      · rename_i hc
        cases h
        refine ⟨by show 2 ≤ 3; decide, w, [.str s], rfl, ?_, fun d hd => by rw [List.mem_singleton.mp hd]; rfl⟩
        rcases hc.2 with rfl | rfl <;> (show false = decide (_ ∨ _); decide)
      · cases h
  · rename_i w s t
    split at h
    · cases h
    · rename_i hj
      split at h
      · split at h
        · rename_i hw
          split at h
          · cases h
            refine ⟨by show 3 ≤ 3; decide, w, _, rfl, by rw [hw]; show false = decide (_ ∨ _); decide, fun d hd => ?_⟩
            rcases List.mem_cons.mp hd with rfl | hd
            · rfl
            · rw [List.mem_singleton.mp hd]; rfl
          · cases h
        · split at h
          · rename_i hw
            split at h
            · cases h
              refine ⟨by show 3 ≤ 3; decide, w, _, rfl, by rcases hw with rfl | rfl <;> (show false = decide (_ ∨ _); decide), fun d hd => ?_⟩
              rcases List.mem_cons.mp hd with rfl | hd
              · rfl
              · rw [List.mem_singleton.mp hd]; rfl
            · cases h
          · split at h
            · rename_i hw
              split at h
              · cases h
                refine ⟨by show 2 ≤ 3; decide, w, _, rfl, by rw [hw]; show true = decide (_ ∨ _); decide, fun d hd => by rw [List.mem_singleton.mp hd]; rfl⟩
              · cases h
            · cases h
      · cases h
  · cases h
/-! the program's reading of a row's words -/
theorem name_t {s : Tx} (hl : s.length ≤ 1000000) {Φ : T → Od.Env → Prop} {Ψ : Exn → Od.Env → Prop} (q : Φ (.sh (.bl (nmB s))) [none]) : satO (f_is_name [.sh (.str s)]) Φ Ψ := by
  have e : nmB s = (decide (1 ≤ s.length) && decide (s.length ≤ 8) && decide (stripL abc s = [])) := by unfold nmB; rw [stripL_all]
  simp only [f_is_name, B_is_name]
  sizeOf_list_dec
  refine ⟨rfl, hl, fun h1 => ⟨fun h8 => ⟨hl, ?_⟩, fun h8 => ?_⟩, fun h1 => ?_⟩
  · have a1 : decide (1 ≤ s.length) = true := decide_eq_true (by omega)
    have a2 : decide (s.length ≤ 8) = true := decide_eq_true (by omega)
    rw [e, a1, a2] at q
    exact q
  · have a2 : decide (s.length ≤ 8) = false := decide_eq_false (by omega)
    rw [e, a2, Bool.and_false, Bool.false_and] at q
    exact q
  · have a2 : decide (1 ≤ s.length) = false := decide_eq_false (by omega)
    rw [e, a2, Bool.false_and, Bool.false_and] at q
    exact q
theorem cut_last (s : Tx) : cutD s none (some (-1)) = s.take (s.length - 1) := by
  unfold cutD
  rw [show HT.sIx s.length 0 none = 0 from rfl, List.drop_zero, Nat.sub_zero]
  simp only [HT.sIx]
  rw [if_pos (by decide)]
  congr 1; omega
theorem labOf_1 (w : Tx) : labOf [w] = if ([58] : Tx).isSuffixOf w = true ∧ nmB (w.take (w.length - 1)) = true then some (w.take (w.length - 1)) else none := rfl
theorem rowOf_2 (w s : Tx) : rowOf [w, s] = if w = wJump then (if nmB s = true then some ⟨[.str wJump], some s⟩ else none) else if spots4.contains s = true ∧ (w = wTell ∨ w = wAsk) then some ⟨[.str w, .str s], none⟩ else none := rfl
theorem rowOf_3 (w s t : Tx) : rowOf [w, s, t] = if w = wJump then none else if spots4.contains s = true then
      (if w = wSet then (if numB t = true then some ⟨[.str w, .str s, .int (NumText.digitsVal t : Nat)], none⟩ else none)
      else if w = wAdd ∨ w = wTake then (if spots4.contains t = true then some ⟨[.str w, .str s, .str t], none⟩ else none)
      else if w = wZero then (if nmB t = true then some ⟨[.str w, .str s], some t⟩ else none) else none) else none := rfl
theorem lab_ok {ws : List Tx} (hn : ws ≠ []) (hl : ∀ w ∈ ws, w.length ≤ 1000000) {Φ : T → Od.Env → Prop} {Ψ : Exn → Od.Env → Prop} (q : Φ (.sh (match labOf ws with | some n => .str n | none => .non)) [none]) : satO (f_label_in [.sh (.lst (ws.map .str))]) Φ Ψ := by
  simp only [f_label_in, B_label_in]
  sizeOf_list_dec
  rw [List.length_map]
  rcases ws with _ | ⟨w, _ | ⟨s, r⟩⟩
  · exact absurd rfl hn
  · have hw := hl w (by simp)
    simp only [List.map_cons, List.map_nil]
    sizeOf_list_dec
    rw [cut_last]
    rw [labOf_1] at q
    refine ⟨rfl, fun _ => ⟨fun h1 => ⟨rfl, hw, name_t (by rw [List.length_take]; omega) ?_⟩, fun h1 => ?_⟩, fun z => absurd rfl z⟩
    · sizeOf_list_dec
      refine ⟨fun h2 => ⟨hw, ?_⟩, fun h2 => ?_⟩
      · rw [cut_last]
        rw [if_pos ⟨h1, h2⟩] at q
        exact q
      · rw [if_neg fun z => by rw [z.2] at h2; cases h2] at q
        exact q
    · rw [if_neg fun z => by rw [z.1] at h1; cases h1] at q
      exact q
  · refine ⟨rfl, fun z => ?_, fun _ => q⟩
    simp only [List.length_cons] at z
    omega
theorem digs_ok {s : Tx} (h : (s.all fun c => figs10.contains c) = true) (h1 : 1 ≤ s.length) (h3 : s.length ≤ 3) : digB s = true := by
  unfold digB
  rw [Bool.and_eq_true, Bool.and_eq_true]
  refine ⟨⟨?_, ?_⟩, decide_eq_true (by omega)⟩
  · rw [List.all_eq_true] at h ⊢
    intro c hc
    have := h c hc
    rw [List.contains_iff_mem] at this
    simp only [figs10, List.mem_cons, List.not_mem_nil, or_false] at this
    rw [Bool.and_eq_true, decide_eq_true_eq, decide_eq_true_eq]
    omega
  · cases s with
    | nil => exact absurd h1 (by decide)
    | cons => rfl
theorem num_t {s : Tx} (hl : s.length ≤ 1000000) {Φ : T → Od.Env → Prop} {Ψ : Exn → Od.Env → Prop} (q : Φ (.sh (.bl (numB s))) [none]) : satO (f_is_number_told [.sh (.str s)]) Φ Ψ := by
  simp only [f_is_number_told, B_is_number_told]
  sizeOf_list_dec
  have e : numB s = (decide (1 ≤ s.length) && decide (s.length ≤ 3) && decide (stripL figs10 s = []) && (decide (s = [48]) || !([48] : Tx).isPrefixOf s) && decide (NumText.digitsVal s ≤ 255)) := by unfold numB; rw [stripL_all]
  have ef : ([48, 49, 50, 51, 52, 53, 54, 55, 56, 57] : Tx) = figs10 := rfl
  have ed : decide ((NumText.digitsVal s : Int) ≤ 255) = decide (NumText.digitsVal s ≤ 255) := decide_eq_decide.mpr (by omega)
  rw [ef, ed]
  refine ⟨rfl, hl, fun h1 => ⟨fun h3 => ?_, fun h3 => ⟨hl, fun hs => ?_, fun hs => ?_⟩⟩, fun h1 => ?_⟩
  · rw [e, decide_eq_false (show ¬ s.length ≤ 3 by omega)] at q
    simpa using q
  · rw [e, decide_eq_false hs] at q
    simpa using q
  · have hd : digB s = true := digs_ok (by rw [← stripL_all, decide_eq_true hs]) (by omega) (by omega)
    rw [e, decide_eq_true (show 1 ≤ s.length by omega), decide_eq_true (show s.length ≤ 3 by omega), decide_eq_true hs] at q
    refine ⟨fun h0 => ⟨hd, ?_⟩, fun h0 => ⟨fun hp => ⟨hd, ?_⟩, fun hp => ?_⟩⟩
    · rw [decide_eq_true h0] at q
      exact q
    · rw [decide_eq_false h0, hp] at q
      exact q
    · rw [decide_eq_false h0, hp] at q
      exact q
  · rw [e, decide_eq_false (show ¬ 1 ≤ s.length by omega)] at q
    simpa using q
theorem cI4 (s : Tx) {Φ : Bool → Prop} : ex (cIn (.str s) (.tup [.str [97], .str [98], .str [99], .str [100]])) Φ = Φ (spots4.contains s) := in_tups s spots4
theorem cN4 (s : Tx) {Φ : Bool → Prop} : ex (cNotIn (.str s) (.tup [.str [97], .str [98], .str [99], .str [100]])) Φ = Φ (!spots4.contains s) := by
  unfold cNotIn
  rw [ex_map, cI4]
theorem l2_ (a b : D) : (([a, b].length : Nat) : Int) = 2 := rfl
theorem l3_ (a b c : D) : (([a, b, c].length : Nat) : Int) = 3 := rfl
theorem i23 : ((2 : Int) = 3) = False := by decide
theorem i32 : ((3 : Int) = 2) = False := by decide
theorem spot2_ok {w s : Tx} {Φ : T → Od.Env → Prop} {Ψ : Exn → Od.Env → Prop} (hj : w ≠ wJump) (q : Φ (.sh (match rowOf [w, s] with | some r => r.d | none => .non)) [none]) : satO (f_row_with_spot [.sh (.lst ([w, s].map .str))]) Φ Ψ := by
  simp only [f_row_with_spot, B_row_with_spot]
  simp only [List.map_cons, List.map_nil]
  sizeOf_list_dec
  rw [cN4]
  rw [rowOf_2, if_neg hj] at q
  simp only [l2_, i23, false_implies, not_false_eq_true, true_implies, not_true_eq_false, true_and, and_true, Bool.not_eq_true', Bool.not_eq_false']
  refine ⟨rfl, rfl, rfl, fun h => ?_, fun h => ⟨by simp, fun hw => ⟨by simp, ?_⟩, fun hw => ?_⟩⟩
  · rw [if_neg fun z => by rw [z.1] at h; cases h] at q
    exact q
  · rw [if_pos ⟨h, hw⟩] at q
    exact q
  · rw [if_neg fun z => hw z.2] at q
    exact q
theorem spot4_ok {w s t u : Tx} {r : List Tx} {Φ : T → Od.Env → Prop} {Ψ : Exn → Od.Env → Prop} (q : Φ (.sh .non) [none]) : satO (f_row_with_spot [.sh (.lst ((w :: s :: t :: u :: r).map .str))]) Φ Ψ := by
  simp only [f_row_with_spot, B_row_with_spot]
  simp only [List.map_cons, List.map_nil]
  sizeOf_list_dec
  rw [cN4]
  have h2 : ((((D.str w :: D.str s :: D.str t :: D.str u :: r.map D.str).length : Nat) : Int) = 2) = False := by
    rw [eq_iff_iff]; simp only [List.length_cons, iff_false]; omega
  have h3 : ((((D.str w :: D.str s :: D.str t :: D.str u :: r.map D.str).length : Nat) : Int) = 3) = False := by
    rw [eq_iff_iff]; simp only [List.length_cons, iff_false]; omega
  simp only [h2, h3, false_implies, not_false_eq_true, true_implies, true_and, and_true]
  exact ⟨rfl, rfl, rfl, fun _ => q, fun _ => q⟩
theorem spot3_ok {w s t : Tx} (hl : t.length ≤ 1000000) {Φ : T → Od.Env → Prop} {Ψ : Exn → Od.Env → Prop} (hj : w ≠ wJump) (q : Φ (.sh (match rowOf [w, s, t] with | some r => r.d | none => .non)) [none]) : satO (f_row_with_spot [.sh (.lst ([w, s, t].map .str))]) Φ Ψ := by
  rw [rowOf_3, if_neg hj] at q
  simp only [f_row_with_spot, B_row_with_spot]
  simp only [List.map_cons, List.map_nil]
  rcases Classical.em (spots4.contains s = true) with hs | hs
  · rw [if_pos hs] at q
    rcases Classical.em (w = wSet) with rfl | w1
    · rw [if_pos rfl] at q
      unfold wSet at *
      simp_wf
      simp only [cN4, hs, l3_, i32, false_implies, true_implies, not_true_eq_false, not_false_eq_true, Bool.not_true, Bool.not_false, Bool.false_eq_true, Bool.true_eq_false, reduceCtorEq, true_and, and_true, forall_const, implies_true]
      refine ⟨rfl, rfl, rfl, rfl, num_t hl ?_⟩
      simp_wf
      refine ⟨fun h => ⟨?_, by simp, ?_⟩, fun h => ?_⟩
      · unfold numB at h
        simp only [Bool.and_eq_true, decide_eq_true_eq] at h
        exact digs_ok h.1.1.2 h.1.1.1.1 h.1.1.1.2
      · rw [if_pos h] at q
        exact q
      · rw [if_neg (by rw [h]; decide)] at q
        simp only [l3_, false_implies, true_implies, not_true_eq_false, not_false_eq_true, Bool.not_true, Bool.not_false, Bool.false_eq_true, Bool.true_eq_false, reduceCtorEq, true_and, and_true, forall_const, implies_true]
        exact ⟨by simp, q⟩
    · rw [if_neg w1] at q
      unfold wSet at w1
      rcases Classical.em (w = wAdd ∨ w = wTake) with hw | w2
      · rw [if_pos hw] at q
        rcases hw with rfl | rfl <;> (
          simp only [wAdd, wTake] at *
          simp_wf
          simp only [cN4, cI4, hs, l3_, i32, false_implies, true_implies, not_true_eq_false, not_false_eq_true, Bool.not_true, Bool.not_false, Bool.false_eq_true, Bool.true_eq_false, reduceCtorEq, true_and, and_true, forall_const, implies_true]
          refine ⟨rfl, rfl, rfl, by simp, fun h => ⟨by simp, ?_⟩, fun h => ?_⟩
          · rw [if_pos h] at q
            exact q
          · rw [if_neg (by rw [h]; decide)] at q
            exact q)
      · rw [if_neg w2] at q
        unfold wAdd wTake at w2
        rcases Classical.em (w = wZero) with rfl | w3
        · rw [if_pos rfl] at q
          unfold wZero at *
          simp_wf
          simp only [cN4, hs, l3_, i32, false_implies, true_implies, not_true_eq_false, not_false_eq_true, Bool.not_true, Bool.not_false, Bool.false_eq_true, Bool.true_eq_false, reduceCtorEq, true_and, and_true, forall_const, implies_true]
          refine ⟨rfl, rfl, rfl, by simp, rfl, name_t hl ?_⟩
          simp_wf
          refine ⟨fun h => ⟨by simp, ?_⟩, fun h => ?_⟩
          · rw [if_pos h] at q
            exact q
          · rw [if_neg (by rw [h]; decide)] at q
            exact q
        · rw [if_neg w3] at q
          unfold wZero at w3
          sizeOf_list_dec
          simp only [cN4, hs, l3_, i32, w1, w2, w3, false_implies, true_implies, not_true_eq_false, not_false_eq_true, Bool.not_true, Bool.not_false, Bool.false_eq_true, Bool.true_eq_false, reduceCtorEq, true_and, and_true, forall_const, implies_true]
          exact ⟨rfl, rfl, rfl, by simp, q⟩
  · rw [if_neg hs] at q
    sizeOf_list_dec
    simp only [cN4, hs, Bool.not_eq_true] at *
    simp only [cN4, hs, false_implies, true_implies, not_true_eq_false, not_false_eq_true, Bool.not_true, Bool.not_false, Bool.false_eq_true, Bool.true_eq_false, reduceCtorEq, true_and, and_true, forall_const, implies_true]
    exact ⟨rfl, rfl, rfl, q⟩
theorem row_ok {ws : List Tx} (hn : ws ≠ []) (ha : ∀ x ∈ ws, asc x) (hl : ∀ x ∈ ws, x.length ≤ 1000000) {Φ : T → Od.Env → Prop} {Ψ : Exn → Od.Env → Prop} (q : Φ (.sh (match rowOf ws with | some r => r.d | none => .non)) [none]) : satO (f_row_of [.sh (.lst (ws.map .str))]) Φ Ψ := by
  simp only [f_row_of, B_row_of]
  sizeOf_list_dec
  refine ⟨rfl, by simp, fEq_strs (ys := [wStop]) ha (fun s hs => by rw [List.mem_singleton.mp hs]; unfold asc wStop; decide) ?_⟩
  rcases ws with _ | ⟨w, _ | ⟨s, r⟩⟩
  · exact absurd rfl hn
  · have e : rowOf [w] = if w = wStop then some ⟨[.str wStop], none⟩ else none := rfl
    rw [e] at q
    refine ⟨fun h => ⟨by simp, ?_⟩, fun h => ⟨fun _ => ?_, fun h2 => ?_⟩⟩
    · rw [if_pos (by simpa using of_decide_eq_true h)] at q
      exact q
    · rw [if_neg (by simpa using of_decide_eq_false h)] at q
      exact q
    · simp at h2
  · have e1 : decide (w :: s :: r = [wStop]) = false := by simp
    rw [e1]
    refine ⟨fun z => (by cases z), fun _ => ⟨fun z => (by simp at z; omega), fun _ => ?_⟩⟩
    have hw : w.length ≤ 1000000 := hl w (by simp)
    have hs : s.length ≤ 1000000 := hl s (by simp)
    simp only [List.map_cons]
    sizeOf_list_dec
    refine ⟨fun h => ?_, fun h => ⟨rfl, ?_⟩⟩
    · have hj : w = wJump := h
      rcases r with _ | ⟨t, _ | ⟨u, r⟩⟩
      · rw [rowOf_2, if_pos hj] at q
        refine ⟨fun _ => ⟨rfl, name_t hs ?_⟩, fun z => absurd rfl z⟩
        sizeOf_list_dec
        refine ⟨fun h => ⟨by simp, ?_⟩, fun h => ?_⟩
        · rw [if_pos h] at q
          exact q
        · rw [if_neg (by rw [h]; decide)] at q
          exact q
      · rw [rowOf_3, if_pos hj] at q
        exact ⟨fun z => absurd z (show ¬ (3 : Int) = 2 by decide), fun _ => q⟩
      · exact ⟨fun z => (by simp only [List.map_cons, List.length_cons] at z; omega), fun _ => q⟩
    · have hj : w ≠ wJump := h
      rcases r with _ | ⟨t, _ | ⟨u, r⟩⟩
      · refine spot2_ok hj ?_
        sizeOf_list_dec
        exact q
      · refine spot3_ok (hl t (by simp)) hj ?_
        sizeOf_list_dec
        exact q
      · refine spot4_ok ?_
        sizeOf_list_dec
        exact q
/-- a text's signs are all below 128, it isn't too long -/
structure Tok (t : Tx) : Prop where
  a : asc t
  l : t.length ≤ 900000
theorem Tok.row {t : Tx} (h : Tok t) (c : Nat) {r : Tx} (hr : r ∈ spl c t) : Tok r := ⟨fun x hx => h.a x (mem_spl c t r hr x hx), Nat.le_trans (spl_plen c t r hr) h.l⟩
theorem Tok.cnt {t : Tx} (h : Tok t) (c : Nat) : (spl c t).length ≤ 900001 := by
  have := spl_len c t
  have := h.l
  omega
/-- the known labels, as a dict's keys -/
def keysOf (ks : List Tx) : D := .dct (ks.map .inr) (ks.map fun _ => .bl true)
theorem any_str (ks : List Tx) (n : Tx) : ((ks.map Sum.inr).any fun x => decide ((x : DK) = .inr n)) = ks.contains n := by
  induction ks with
  | nil => rfl
  | cons k ks ih =>
    rw [List.map_cons, List.any_cons, List.contains_cons, ih]
    congr 1
    rw [Bool.eq_iff_iff, decide_eq_true_eq, beq_iff_eq]
    exact ⟨fun z => (Sum.inr.inj z).symm, fun z => by rw [z]⟩
theorem put_new {ks : List Tx} {vs : List D} {n : Tx} {d : D} (h : n ∉ ks) : putKD (ks.map .inr) vs (.inr n) d = ((ks ++ [n]).map .inr, vs ++ [d]) := by
  unfold putKD
  rw [any_str, if_neg (by rw [List.contains_iff_mem]; exact h), List.map_append]; rfl
theorem put_old {ks : List Tx} {n : Tx} (h : n ∈ ks) : putKD (ks.map .inr) (ks.map fun _ => .bl true) (.inr n) (.bl true) = (ks.map .inr, ks.map fun _ => .bl true) := by
  unfold putKD
  rw [any_str, if_pos (by rw [List.contains_iff_mem]; exact h)]
  refine Prod.ext rfl ?_
  show List.map _ _ = _
  clear h
  induction ks with
  | nil => rfl
  | cons k ks ih =>
    simp only [List.map_cons, List.zip_cons_cons]
    rw [ih]
    congr 1
    split <;> rfl
theorem labs_app (xs ys : List Tx) : labs (xs ++ ys) = labs xs ++ labs ys := by unfold labs; rw [List.filterMap_append]
theorem take_s {α : Type} {xs : List α} {i : Nat} {x : α} (h : xs[i]? = some x) : xs.take (i + 1) = xs.take i ++ [x] := by
  rw [List.take_succ, h]; rfl
theorem strs_at {xs : List Tx} {i : Nat} {x : D} (h : (xs.map D.str)[i]? = some x) : ∃ r, xs[i]? = some r ∧ r ∈ xs ∧ x = .str r := by
  rw [List.getElem?_map] at h
  obtain ⟨r, hr, rfl⟩ := Option.map_eq_some_iff.mp h
  exact ⟨r, hr, List.mem_of_getElem? hr, rfl⟩
theorem labels_ok {t : Tx} (ht : Tok t) {Φ : T → Od.Env → Prop} {Ψ : Exn → Od.Env → Prop} (q : ∀ ks : List Tx, (∀ n, n ∈ ks ↔ n ∈ labs (spl 10 t)) → ks.length ≤ 900001 → Φ (.dct (ks.map .inr) (ks.map fun _ => .bl true)) [none]) : satO (f_labels_in [.sh (.str t)]) Φ Ψ := by
  simp only [f_labels_in, B_labels_in]
  sizeOf_list_dec
  refine ⟨rfl, ⟨by simp, Nat.le_trans ht.l (by decide)⟩, ?_⟩
  rw [splitL_eq]
  refine for_inv (fun i ρ => ∃ ks : List Tx, (∀ n, n ∈ ks ↔ n ∈ labs ((spl 10 t).take i)) ∧ ks.length ≤ i ∧ ρ = [some (T.sh (.str t)), some (T.dct (ks.map .inr) (ks.map fun _ => .bl true)), none, none]) ⟨[], fun n => by simp [labs], Nat.le_refl _, rfl⟩ ?_ ?_
  · rintro i x ρ hx ⟨ks, hk, hl, rfl⟩
    obtain ⟨r, hr, hm, rfl⟩ := strs_at hx
    have hT := ht.row 10 hm
    have hi := (List.getElem?_eq_some_iff.mp hr).1
    have hc := ht.cnt 10
    have hs : labs ((spl 10 t).take (i + 1)) = labs ((spl 10 t).take i) ++ labs [r] := by rw [take_s hr, labs_app]
    sizeOf_list_dec
    rw [splitL_eq]
    refine ⟨rfl, ⟨by simp, Nat.le_trans hT.l (by decide)⟩, lab_ok (spl_ne 32 r) (fun w hw => Nat.le_trans (hT.row 32 hw).l (by decide)) ?_⟩
    have hL : labs [r] = (labOf (spl 32 r)).toList := by unfold labs; cases e : labOf (spl 32 r) <;> simp [e]
    cases e : labOf (spl 32 r) with
    | none =>
      sizeOf_list_dec
      exact ⟨ks, fun n => by rw [hs, hL, e, hk]; simp, by omega, rfl⟩
    | some n =>
      sizeOf_list_dec
      refine ⟨by rw [List.length_map]; omega, ?_⟩
      rw [hL, e] at hs
      rcases Classical.em (n ∈ ks) with h | h
      · rw [put_old h]
        refine ⟨ks, fun m => ?_, by omega, rfl⟩
        rw [hs, List.mem_append, ← hk]
        exact ⟨fun z => .inl z, fun z => z.elim id fun z => by rw [Option.toList_some, List.mem_singleton] at z; rw [z]; exact h⟩
      · rw [put_new h]
        refine ⟨ks ++ [n], fun m => ?_, by rw [List.length_append, List.length_singleton]; omega, by rw [List.map_append, List.map_append]; rfl⟩
        rw [hs, List.mem_append, List.mem_append, hk, Option.toList_some]
  · rintro ρ ⟨ks, hk, hl, rfl⟩
    sizeOf_list_dec
    rw [List.length_map] at hk hl
    refine q ks (fun n => ?_) ?_
    · rw [hk, List.take_of_length_le (Nat.le_refl _)]
    · have := ht.cnt 10; omega
/-! the reader's object -/
def rdW : Tx := [82, 101, 97, 100, 105, 110, 103]
def rdF (ks : List Tx) (st : Rg) : List (Tx × T1) := [([107, 110, 111, 119, 110], .sh (keysOf ks)), ([114, 111, 119, 115], .lst (st.rows.map SR.d)), ([112, 108, 97, 99, 101, 115], .dct (st.ns.map .inr) (natsD st.ps))]
def rdT (ks : List Tx) (st : Rg) : T := .ins rdW (rdF ks st)
section
variable {ks : List Tx} {st : Rg} {Φ : D → Prop} {ΦL : List D → Prop} {ΦR : List DK × List D → Prop}
theorem gD_rows : ex (getD1 (rdF ks st) [114, 111, 119, 115]) Φ = Φ (.lst (st.rows.map SR.d)) := rfl
theorem gD_places : ex (getD1 (rdF ks st) [112, 108, 97, 99, 101, 115]) Φ = Φ (.dct (st.ns.map .inr) (natsD st.ps)) := rfl
theorem gL_rows : ex (getL1 (rdF ks st) [114, 111, 119, 115]) ΦL = ΦL (st.rows.map SR.d) := rfl
theorem gS_known : ex (getS (rdF ks st) [107, 110, 111, 119, 110]) Φ = Φ (keysOf ks) := rfl
theorem sF_rows (rs : List SR) : setF (rdF ks st) [114, 111, 119, 115] (.lst (rs.map SR.d)) = rdF ks { st with rows := rs } := rfl
theorem sF_places (ns : List Tx) (ps : List Nat) : setF (rdF ks st) [112, 108, 97, 99, 101, 115] (.dct (ns.map .inr) (natsD ps)) = rdF ks { st with ns := ns, ps := ps } := rfl
end
theorem atI_lst {α : Type} (xs : List α) (x : α) : atI (xs ++ [x]) (-1) = some x := by
  unfold atI ixN
  rw [if_neg (by decide), List.length_append, List.length_singleton]
  rw [if_pos (by omega)]
  have : (-1 + ((xs.length + 1 : Nat) : Int)).toNat = xs.length := by omega
  show (xs ++ [x])[_]? = _
  rw [this, List.getElem?_append_right (Nat.le_refl _), Nat.sub_self]; rfl
theorem cut_lst (xs : List D) (x : D) : cutD (xs ++ [x]) none (some (-1)) = xs := by
  unfold cutD
  rw [show HT.sIx (xs ++ [x]).length 0 none = 0 from rfl, List.drop_zero, Nat.sub_zero]
  simp only [HT.sIx]
  rw [if_pos (by decide), List.length_append, List.length_singleton]
  have : (-1 + ((xs.length + 1 : Nat) : Int)).toNat = xs.length := by omega
  rw [this, List.take_left]
theorem init_ok {ks : List Tx} {Φ : T → Od.Env → Prop} {Ψ : Exn → Od.Env → Prop} (q : Φ (.sh .non) [some (rdT ks ⟨[], [], []⟩), none]) : satO (f_Reading____init__ [.ins rdW [], .sh (keysOf ks)]) Φ Ψ := by
  simp only [f_Reading____init__, B_Reading____init__]
  unfold rdT rdW at *
  sizeOf_list_dec
  exact ⟨rfl, by decide, by decide, by show 1 < 900; decide, by show 2 < 900; decide, q⟩
theorem cInR (w : Tx) {Φ : Bool → Prop} : ex (cIn (.str w) (.tup [.str [106, 117, 109, 112], .str [122, 101, 114, 111]])) Φ = Φ (decide (w = wJump ∨ w = wZero)) := x_in2 w wJump wZero
theorem nin_keys {ks known : List Tx} (hk : ∀ n, n ∈ ks ↔ n ∈ known) (n : Tx) {Φ : Bool → Prop} : ex (cNotIn (.str n) (keysOf ks)) Φ = Φ (!decide (n ∈ known)) := by
  unfold keysOf
  rw [notin_dct]
  congr 2
  rw [Bool.eq_iff_iff, List.contains_iff_mem, decide_eq_true_eq]
  exact hk n
theorem trow_ok {r : Tx} {ks known : List Tx} {st : Rg} (hk : ∀ n, n ∈ ks ↔ n ∈ known) (hT : Tok r) (hs : st.rows.length ≤ 200) (hp : st.ns.length < 1000000) {Φ : T → Od.Env → Prop} {Ψ : Exn → Od.Env → Prop}
    (q : Φ (.sh (.bl (takeR known st (spl 32 r)).isSome)) [some (rdT ks ((takeR known st (spl 32 r)).getD st)), none]) : satO (f_Reading__take_row [rdT ks st, .sh (.lst ((spl 32 r).map .str))]) Φ Ψ := by
  simp only [f_Reading__take_row, B_Reading__take_row]
  unfold rdT rdW at *
  unfold takeR at q
  sizeOf_list_dec
  refine ⟨rfl, rfl, lab_ok (spl_ne 32 r) (fun w hw => Nat.le_trans (hT.row 32 hw).l (by decide)) ?_⟩
  cases e : labOf (spl 32 r) with
  | some n =>
    rw [e] at q
    sizeOf_list_dec
    rw [gD_places, in_dct]
    refine ⟨fun h => ?_, fun h => ?_⟩
    · have h : n ∈ st.ns := List.contains_iff_mem.mp h
      simp only [if_pos h] at q
      exact q
    · have h : n ∉ st.ns := fun z => by rw [List.contains_iff_mem.mpr z] at h; cases h
      simp only [if_neg h] at q
      rw [gD_rows]
      sizeOf_list_dec
      refine ⟨by show (st.ns.map _).length < _; rw [List.length_map]; exact hp, ?_⟩
      show Φ _ [some (T.ins _ (setF _ _ (T1.dct (putKD (st.ns.map .inr) (natsD st.ps) _ _).1 (putKD (st.ns.map .inr) (natsD st.ps) _ _).2))), _]
      rw [put_new h, List.length_map]
      have e2 : natsD st.ps ++ [D.int (st.rows.length : Nat)] = natsD (st.ps ++ [st.rows.length]) := by unfold natsD; rw [List.map_append]; rfl
      show Φ _ [some (T.ins _ (setF _ _ (T1.dct ((st.ns ++ [n]).map .inr) (natsD st.ps ++ [D.int (st.rows.length : Nat)])))), _]
      rw [e2, sF_places]
      exact q
  | none =>
    rw [e] at q
    sizeOf_list_dec
    refine ⟨rfl, row_ok (spl_ne 32 r) (fun w hw => (hT.row 32 hw).a) (fun w hw => Nat.le_trans (hT.row 32 hw).l (by decide)) ?_⟩
    cases e2 : rowOf (spl 32 r) with
    | none =>
      rw [e2] at q
      sizeOf_list_dec
      exact q
    | some b =>
      rw [e2] at q
      obtain ⟨ws, wq, qs, hps, hg, hsc⟩ := rowOf_fine e2
      have hd : b.d = .tup b.ds := rfl
      simp only []
      rw [hd]
      sizeOf_list_dec
      rw [gD_rows]
      sizeOf_list_dec
      rw [List.length_map]
      have hfit : deepL [D.tup b.ds] = true := by
        unfold deepL deepD deepL
        rw [Bool.and_true]
        have : ∀ (xs : List D), (∀ d ∈ xs, scalD d = true) → deepL xs = true := by
          intro xs
          induction xs with
          | nil => intro _; rfl
          | cons x xs ih =>
            intro h
            unfold deepL
            rw [ih fun d hd => h d (List.mem_cons_of_mem _ hd), Bool.and_true]
            have := h x (by simp)
            cases x <;> first | rfl | cases this
        have h2 := this b.ds fun d hd => by
          unfold SR.ds at hd
          rcases List.mem_append.mp hd with hd | hd
          · rw [hps] at hd
            rcases List.mem_cons.mp hd with rfl | hd
            · rfl
            · exact hsc d hd
          · cases eg : b.g with
            | none => rw [eg] at hd; cases hd
            | some n => rw [eg] at hd; rw [List.mem_singleton.mp hd]; rfl
        cases eb : b.ds with
        | nil => rfl
        | cons x xs => rw [eb] at h2; unfold deepL at h2; exact h2
      have happ : st.rows.map SR.d ++ [D.tup b.ds] = (st.rows ++ [b]).map SR.d := by rw [List.map_append]; rfl
      have e0 : atI b.ds 0 = some (.str wq) := by
        unfold SR.ds; rw [hps]; exact atI_k 0 rfl rfl
      refine ⟨fun h => ?_, fun h => ?_⟩
      · have h : st.rows.length = 200 := by omega
        simp only [if_pos h] at q
        exact q
      · have h : ¬ st.rows.length = 200 := by omega
        simp only [if_neg h] at q
        rw [e0, ex_some, cInR]
        refine ⟨fun hw => ?_, fun hw => ?_⟩
        · rw [hw] at hg
          obtain ⟨n, eg⟩ := Option.isSome_iff_exists.mp hg
          have e1 : atI b.ds (-1) = some (.str n) := by unfold SR.ds; rw [eg]; exact atI_lst _ _
          rw [e1, ex_some, gS_known, nin_keys hk]
          simp only [eg] at q
          refine ⟨fun hn => ?_, fun hn => ?_⟩
          · have hn : n ∉ known := by simpa using hn
            simp only [if_neg hn] at q
            exact q
          · have hn : n ∈ known := by simpa using hn
            simp only [if_pos hn] at q
            rw [gL_rows]
            refine ⟨hfit, by rw [List.length_map]; omega, ?_⟩
            rw [happ, sF_rows]
            exact q
        · rw [hw] at hg
          have eg : b.g = Option.none := by cases e : b.g with
            | none => rfl
            | some n => rw [e] at hg; cases hg
          simp only [eg] at q
          rw [gL_rows]
          refine ⟨hfit, by rw [List.length_map]; omega, ?_⟩
          rw [happ, sF_rows]
          exact q
/-- the reading, midway -/
structure Rok (known ts : List Tx) (i : Nat) (st : Rg) : Prop where
  r : readR known ts ⟨[], [], []⟩ 0 = readR known (ts.drop i) st i
  m : st.rows.length ≤ 200
  f : ∀ b ∈ st.rows, b.fine ∧ ∀ n, b.g = some n → n ∈ known
  l : st.ns.length = st.ps.length
  c : st.ns.length ≤ i
  a : ∀ n, n ∈ labs (ts.take i) → n ∈ st.ns
theorem takeR_lab {known ws : List Tx} {st st' : Rg} {n : Tx} (e : labOf ws = some n) (h : takeR known st ws = some st') : st'.rows = st.rows ∧ st'.ns = st.ns ++ [n] ∧ st'.ps = st.ps ++ [st.rows.length] := by
  unfold takeR at h
  rw [e] at h
  simp only [] at h
  split at h
  · cases h
  · cases h; exact ⟨rfl, rfl, rfl⟩
theorem takeR_row {known ws : List Tx} {st st' : Rg} (e : labOf ws = none) (h : takeR known st ws = some st') : ∃ b, rowOf ws = some b ∧ st.rows.length ≠ 200 ∧ (∀ n, b.g = some n → n ∈ known) ∧ st' = { st with rows := st.rows ++ [b] } := by
  unfold takeR at h
  rw [e] at h
  simp only [] at h
  cases e2 : rowOf ws with
  | none => rw [e2] at h; cases h
  | some b =>
    rw [e2] at h
    simp only [] at h
    split at h
    · cases h
    · rename_i h2
      cases eg : b.g with
      | none => rw [eg] at h; cases h; exact ⟨b, rfl, h2, fun n z => (by rw [eg] at z; cases z), rfl⟩
      | some n =>
        rw [eg] at h
        simp only [] at h
        split at h
        · rename_i h3; cases h; exact ⟨b, rfl, h2, fun m z => (by rw [eg] at z; cases z; exact h3), rfl⟩
        · cases h
theorem drop_at {α : Type} {xs : List α} {i : Nat} {x : α} (h : xs[i]? = some x) : xs.drop i = x :: xs.drop (i + 1) := by
  obtain ⟨hi, rfl⟩ := List.getElem?_eq_some_iff.mp h
  exact List.drop_eq_getElem_cons hi
theorem labs1 (r : Tx) : labs [r] = (labOf (spl 32 r)).toList := by unfold labs; cases e : labOf (spl 32 r) <;> simp [e]
theorem Rok.skip {known ts : List Tx} {i : Nat} {st : Rg} (h : Rok known ts i st) (hx : ts[i]? = some []) : Rok known ts (i + 1) st := by
  refine ⟨?_, h.m, h.f, h.l, Nat.le_trans h.c (by omega), fun n hn => ?_⟩
  · rw [h.r, drop_at hx, readR, if_pos rfl]
  · rw [take_s hx, labs_app] at hn
    rcases List.mem_append.mp hn with hn | hn
    · exact h.a n hn
    · rw [labs1] at hn; cases hn
theorem Rok.step {known ts : List Tx} {i : Nat} {st st' : Rg} {r : Tx} (h : Rok known ts i st) (hx : ts[i]? = some r) (hr : r ≠ []) (ht : takeR known st (spl 32 r) = some st') : Rok known ts (i + 1) st' := by
  have er : readR known ts ⟨[], [], []⟩ 0 = readR known (ts.drop (i + 1)) st' (i + 1) := by rw [h.r, drop_at hx, readR, if_neg hr, ht]
  cases e : labOf (spl 32 r) with
  | some n =>
    obtain ⟨a, b, c⟩ := takeR_lab e ht
    refine ⟨er, by rw [a]; exact h.m, by rw [a]; exact h.f, by rw [b, c, List.length_append, List.length_append, h.l]; rfl, by rw [b, List.length_append, List.length_singleton]; have := h.c; omega, fun m hm => ?_⟩
    rw [take_s hx, labs_app, labs1, e] at hm
    rw [b]
    rcases List.mem_append.mp hm with hm | hm
    · exact List.mem_append_left _ (h.a m hm)
    · exact List.mem_append_right _ (by simpa using hm)
  | none =>
    obtain ⟨b, h1, h2, h3, rfl⟩ := takeR_row e ht
    refine ⟨er, ?_, fun x hx => ?_, h.l, Nat.le_trans h.c (by omega), fun m hm => ?_⟩
    · show (st.rows ++ [b]).length ≤ 200
      rw [List.length_append, List.length_singleton]; have := h.m; omega
    · rcases List.mem_append.mp hx with hx | hx
      · exact h.f x hx
      · rw [List.mem_singleton.mp hx]; exact ⟨rowOf_fine h1, h3⟩
    · rw [take_s hx, labs_app, labs1, e] at hm
      exact h.a m (by simpa using hm)
theorem Rok.bad {known ts : List Tx} {i : Nat} {st : Rg} {r : Tx} (h : Rok known ts i st) (hx : ts[i]? = some r) (hr : r ≠ []) (ht : takeR known st (spl 32 r) = none) : readR known ts ⟨[], [], []⟩ 0 = .error i := by
  rw [h.r, drop_at hx, readR, if_neg hr, ht]
theorem Rok.done {known ts : List Tx} {st : Rg} (h : Rok known ts ts.length st) : readR known ts ⟨[], [], []⟩ 0 = .ok st := by
  rw [h.r, List.drop_length]; rfl
theorem look_in {ns : List Tx} {ps : List Nat} {n : Tx} (hl : ns.length = ps.length) (h : n ∈ ns) {Φ : D → Prop} (q : Φ (.int (((ns.zip ps).find? fun p => decide (p.1 = n)).elim 0 Prod.snd : Nat))) : ex (fIdx (.dct (ns.map .inr) (natsD ps)) (.str n)) Φ := by
  have e : fIdx (.dct (ns.map .inr) (natsD ps)) (.str n) = kLook (ns.map .inr) (natsD ps) (.inr n) := rfl
  rw [e, kLook_strs]
  have e2 : ns.zip (natsD ps) = (ns.zip ps).map fun p => (p.1, D.int (p.2 : Nat)) := by unfold natsD; rw [List.zip_map_right]; rfl
  rw [e2, List.find?_map]
  have e3 : ((fun p : Tx × D => decide (p.1 = n)) ∘ fun p : Tx × Nat => (p.1, D.int (p.2 : Nat))) = fun p => decide (p.1 = n) := rfl
  rw [e3]
  cases ef : (ns.zip ps).find? fun p => decide (p.1 = n) with
  | some p => rw [ef] at q; exact q
  | none =>
    exfalso
    obtain ⟨i, hi, rfl⟩ := List.getElem_of_mem h
    have := List.find?_eq_none.mp ef (ns[i], ps[i]'(by omega)) (List.mem_iff_getElem.mpr ⟨i, by rw [List.length_zip]; omega, by rw [List.getElem_zip]⟩)
    simp at this
theorem deep_scal : ∀ (xs : List D), (∀ d ∈ xs, scalD d = true) → deepL xs = true
  | [], _ => rfl
  | x :: xs, h => by
    unfold deepL
    rw [deep_scal xs fun d hd => h d (List.mem_cons_of_mem _ hd), Bool.and_true]
    have := h x (by simp)
    cases x <;> first | rfl | cases this
theorem deepL_all : ∀ (xs : List D), (∀ d ∈ xs, deepD d = true) → deepL xs = true
  | [], _ => rfl
  | x :: xs, h => by
    unfold deepL
    rw [deepL_all xs fun d hd => h d (List.mem_cons_of_mem _ hd), Bool.and_true]
    exact h x (by simp)
theorem progOf_deep {st : Rg} {b : SR} (h : b.fine) : deepD (progOf st b) = true := by
  obtain ⟨_, w, qs, hps, _, hsc⟩ := h
  have hp : ∀ d ∈ b.ps, scalD d = true := fun d hd => by
    rw [hps] at hd
    rcases List.mem_cons.mp hd with rfl | hd
    · rfl
    · exact hsc d hd
  unfold progOf
  split
  · unfold deepD
    exact deep_scal _ fun d hd => by
      rcases List.mem_append.mp hd with hd | hd
      · exact hp d hd
      · rw [List.mem_singleton.mp hd]; rfl
  · unfold deepD
    exact deep_scal _ hp
theorem seqD_l (xs : List D) {Φ : List D → Prop} : ex (seqD (.lst xs)) Φ = Φ xs := rfl
theorem progs_at {rs : List SR} {i : Nat} {x : D} (h : (rs.map SR.d)[i]? = some x) : ∃ b, rs[i]? = some b ∧ b ∈ rs ∧ x = b.d := by
  rw [List.getElem?_map] at h
  obtain ⟨b, hb, rfl⟩ := Option.map_eq_some_iff.mp h
  exact ⟨b, hb, List.mem_of_getElem? hb, rfl⟩
theorem program_ok' {ks : List Tx} {st : Rg} (hm : st.rows.length ≤ 200) (hf : ∀ b ∈ st.rows, b.fine ∧ ∀ n, b.g = some n → n ∈ st.ns) (hl : st.ns.length = st.ps.length) {Φ : T → Od.Env → Prop} {Ψ : Exn → Od.Env → Prop} (q : Φ (.lst (st.rows.map (progOf st))) [some (rdT ks st)]) : satO (f_Reading__program [rdT ks st]) Φ Ψ := by
  simp only [f_Reading__program, B_Reading__program]
  unfold rdT rdW at *
  sizeOf_list_dec
  rw [gD_rows, seqD_l]
  refine ⟨rfl, ?_⟩
  refine cmp_i (fun i acc ρ => acc = (st.rows.take i).map (progOf st) ∧ ρ = [some (T.sh (D.obj [82, 101, 97, 100, 105, 110, 103] (List.map Prod.fst (rdF ks st)) (List.map (fun p => d1 p.snd) (rdF ks st)))), none]) (by rw [List.length_map]; omega) ⟨rfl, rfl⟩ ?_ ?_
  · rintro i x acc ρ hx hi ⟨rfl, rfl⟩
    obtain ⟨b, hb, hbm, rfl⟩ := progs_at hx
    obtain ⟨hfin, hgn⟩ := hf b hbm
    obtain ⟨h3, w, qs, hps, hg, hsc⟩ := hfin
    have hd : b.d = .tup b.ds := rfl
    have e0 : atI b.ds 0 = some (.str w) := by unfold SR.ds; rw [hps]; exact atI_k 0 rfl rfl
    have hs : (st.rows.take (i + 1)).map (progOf st) = (st.rows.take i).map (progOf st) ++ [progOf st b] := by rw [take_s hb, List.map_append]; rfl
    rw [hd]
    sizeOf_list_dec
    rw [e0, ex_some, cInR, hs]
    refine ⟨fun hw => ?_, fun hw => ?_⟩
    · rw [hw] at hg
      obtain ⟨n, eg⟩ := Option.isSome_iff_exists.mp hg
      have ed : b.ds = b.ps ++ [.str n] := by unfold SR.ds; rw [eg]
      rw [ed, atI_lst, cut_lst, gD_places, ex_some]
      refine look_in hl (hgn n eg) ⟨by simp, by simp; omega, ?_⟩
      have ep : progOf st b = .tup (b.ps ++ [.int (lookR st n : Nat)]) := by unfold progOf; rw [eg]
      rw [ep]; rfl
    · rw [hw] at hg
      have eg : b.g = Option.none := by cases e : b.g with
        | none => rfl
        | some n => rw [e] at hg; cases hg
      have ep : progOf st b = .tup b.ds := by unfold progOf SR.ds; rw [eg]; simp
      rw [ep]
  · rintro acc ρ hl ⟨rfl, rfl⟩
    rw [List.length_map, List.take_of_length_le (Nat.le_refl _)]
    exact ⟨deepL_all _ fun d hd => by
      obtain ⟨b, hb, rfl⟩ := List.mem_map.mp hd
      exact progOf_deep (hf b hb).1, q⟩
theorem enumS_get {xs : List Tx} {i : Nat} {x : D} (h : (enumD (xs.map D.str))[i]? = some x) : ∃ r, xs[i]? = some r ∧ x = .tup [.int (i : Nat), .str r] := by
  unfold enumD at h
  rw [List.getElem?_map, List.getElem?_zipIdx, List.getElem?_map] at h
  cases e : xs[i]? with
  | none => rw [e] at h; cases h
  | some r =>
    rw [e] at h
    exact ⟨r, rfl, by simpa using (Option.some.inj h).symm⟩
theorem enumS_len (xs : List Tx) : (enumD (xs.map D.str)).length = xs.length := by simp [enumD]
theorem rp_ok {t : Tx} (ht : Tok t) {Φ : T → Od.Env → Prop} {Ψ : Exn → Od.Env → Prop} (q : ∀ st, readR (labs (spl 10 t)) (spl 10 t) ⟨[], [], []⟩ 0 = .ok st → Φ (.lst (st.rows.map (progOf st))) [none])
    (qe : ∀ i, readR (labs (spl 10 t)) (spl 10 t) ⟨[], [], []⟩ 0 = .error i → Ψ ⟨[66, 97, 100, 82, 111, 119], [([114, 111, 119], .int (i : Nat))]⟩ [none]) : satO (f_read_program [.sh (.str t)]) Φ Ψ := by
  simp only [f_read_program, B_read_program]
  sizeOf_list_dec
  refine ⟨rfl, rfl, labels_ok ht fun ks hk hkl => ?_⟩
  sizeOf_list_dec
  refine init_ok (ks := ks) ?_
  unfold rdT rdW
  sizeOf_list_dec
  rw [splitL_eq]
  refine ⟨⟨by simp, Nat.le_trans ht.l (by decide)⟩, ?_⟩
  refine for_inv (fun i ρ => ∃ st, Rok (labs (spl 10 t)) (spl 10 t) i st ∧ ρ = [some (T.sh (.str t)), some (rdT ks st), none, none]) ⟨⟨[], [], []⟩, ⟨rfl, by decide, fun _ h => (by cases h), rfl, Nat.le_refl _, fun _ h => (by cases h)⟩, rfl⟩ ?_ ?_
  · rintro i x ρ hx ⟨st, hR, rfl⟩
    obtain ⟨r, hr, rfl⟩ := enumS_get hx
    have hm := List.mem_of_getElem? hr
    have hT := ht.row 10 hm
    have hc := ht.cnt 10
    have hi := (List.getElem?_eq_some_iff.mp hr).1
    unfold rdT rdW
    sizeOf_list_dec
    refine ⟨fun hne => ⟨rfl, rfl, ⟨by simp, Nat.le_trans hT.l (by decide)⟩, ?_⟩, fun he => ?_⟩
    · rw [splitL_eq]
      refine trow_ok (known := labs (spl 10 t)) hk hT hR.m (by have := hR.c; omega) ?_
      unfold rdT rdW
      sizeOf_list_dec
      cases e : takeR (labs (spl 10 t)) st (spl 32 r) with
      | none => exact ⟨fun _ => qe i (hR.bad hr hne e), fun z => by cases z⟩
      | some st' => exact ⟨fun z => (by cases z), fun _ => ⟨st', hR.step hr hne e, rfl⟩⟩
    · subst he
      exact ⟨st, hR.skip hr, rfl⟩
  · rintro ρ ⟨st, hR, rfl⟩
    rw [enumS_len] at hR
    have hd := hR.done
    have hgo : ∀ b ∈ st.rows, b.fine ∧ ∀ n, b.g = some n → n ∈ st.ns := fun b hb => ⟨(hR.f b hb).1, fun n e => hR.a n (by rw [List.take_of_length_le (Nat.le_refl _)]; exact (hR.f b hb).2 n e)⟩
    unfold rdT rdW
    sizeOf_list_dec
    refine ⟨rfl, rfl, program_ok' hR.m hgo hR.l ?_⟩
    unfold rdT rdW
    sizeOf_list_dec
    exact q st hd
/-! sheets of items: what is read of them -/
def dec (n : Nat) : Tx := shT (.int (n : Nat))
theorem dec_all : ((List.range 256).all fun n => numB (dec n) && decide (NumText.digitsVal (dec n) = n) && ((dec n).all fun c => decide (33 ≤ c) && decide (c ≤ 57)) && decide ((dec n).length ≤ 3)) = true := by decide +kernel
theorem dec_ok {n : Nat} (h : n ≤ 255) : numB (dec n) = true ∧ NumText.digitsVal (dec n) = n ∧ (∀ c ∈ dec n, 33 ≤ c ∧ c ≤ 57) ∧ (dec n).length ≤ 3 := by
  have := List.all_eq_true.mp dec_all n (List.mem_range.mpr (by omega))
  simp only [Bool.and_eq_true, decide_eq_true_eq, List.all_eq_true] at this
  exact ⟨this.1.1.1, this.1.1.2, this.1.2, this.2⟩
theorem nm_mem {s : Tx} (h : nmB s = true) : 1 ≤ s.length ∧ s.length ≤ 8 ∧ ∀ c ∈ s, 97 ≤ c ∧ c ≤ 122 := by
  unfold nmB at h
  simp only [Bool.and_eq_true, decide_eq_true_eq, List.all_eq_true] at h
  refine ⟨h.1.1, h.1.2, fun c hc => ?_⟩
  have := List.contains_iff_mem.mp (h.2 c hc)
  simp only [abc, List.mem_cons, List.not_mem_nil, or_false] at this
  omega
theorem nm_of {s : Tx} (h1 : 1 ≤ s.length) (h8 : s.length ≤ 8) (h : ∀ c ∈ s, 97 ≤ c ∧ c ≤ 122) : nmB s = true := by
  unfold nmB
  simp only [Bool.and_eq_true, decide_eq_true_eq, List.all_eq_true]
  refine ⟨⟨h1, h8⟩, fun c hc => List.contains_iff_mem.mpr ?_⟩
  have := h c hc
  simp only [abc, List.mem_cons, List.not_mem_nil, or_false]
  omega
/-- a row's words, a jump's goal by a label -/
def PRow.ws (lab : Nat → Tx) : PRow → List Tx
  | .set s n => [wSet, [s], dec n]
  | .two w s t => [wTwo w, [s], [t]]
  | .one w s => [wOne w, [s]]
  | .stop => [wStop]
  | .jump a => [wJump, lab a]
  | .zero s a => [wZero, [s], lab a]
def PRow.sr (lab : Nat → Tx) : PRow → SR
  | .set s n => ⟨[.str wSet, .str [s], .int n], none⟩
  | .two w s t => ⟨[.str (wTwo w), .str [s], .str [t]], none⟩
  | .one w s => ⟨[.str (wOne w), .str [s]], none⟩
  | .stop => ⟨[.str wStop], none⟩
  | .jump a => ⟨[.str wJump], some (lab a)⟩
  | .zero s a => ⟨[.str wZero, .str [s]], some (lab a)⟩
def PRow.goal : PRow → Option Nat
  | .jump a => some a
  | .zero _ a => some a
  | _ => none
theorem sp4 {s : Nat} (h : spB s) : spots4.contains [s] = true := by
  obtain ⟨a, b⟩ := h
  rcases (by omega : s = 97 ∨ s = 98 ∨ s = 99 ∨ s = 100) with rfl | rfl | rfl | rfl <;> decide
theorem wTwo_or (w : Bool) : wTwo w = wTake ∨ wTwo w = wAdd := by cases w <;> simp [wTwo]
theorem wOne_or (w : Bool) : wOne w = wAsk ∨ wOne w = wTell := by cases w <;> simp [wOne]
theorem rowOf_ws {lab : Nat → Tx} {r : PRow} {m : Nat} (h : r.ok m) (hl : ∀ a, r.goal = some a → nmB (lab a) = true) : rowOf (r.ws lab) = some (r.sr lab) := by
  cases r with
  | set s n =>
    obtain ⟨h1, h2⟩ := h
    obtain ⟨d1, d2, _, _⟩ := dec_ok h2
    show rowOf [wSet, [s], dec n] = _
    rw [rowOf_3, if_neg (by decide), if_pos (sp4 h1), if_pos rfl, if_pos d1, d2]; rfl
  | two w s t =>
    obtain ⟨h1, h2⟩ := h
    show rowOf [wTwo w, [s], [t]] = some ⟨[.str (wTwo w), .str [s], .str [t]], Option.none⟩
    rcases wTwo_or w with e | e <;> rw [rowOf_3, e, if_neg (by decide), if_pos (sp4 h1), if_neg (by decide), if_pos (by decide), if_pos (sp4 h2)]
  | one w s =>
    show rowOf [wOne w, [s]] = some ⟨[.str (wOne w), .str [s]], Option.none⟩
    rcases wOne_or w with e | e <;> rw [rowOf_2, e, if_neg (by decide), if_pos ⟨sp4 h, by decide⟩]
  | stop => rfl
  | jump a =>
    show rowOf [wJump, lab a] = _
    rw [rowOf_2, if_pos rfl, if_pos (hl a rfl)]; rfl
  | zero s a =>
    show rowOf [wZero, [s], lab a] = _
    rw [rowOf_3, if_neg (by decide), if_pos (sp4 h.1), if_neg (by decide), if_neg (by decide), if_pos rfl, if_pos (hl a rfl)]; rfl
theorem labOf_ws (lab : Nat → Tx) (r : PRow) : labOf (r.ws lab) = none := by
  cases r <;> first | rfl | skip
/-- signs of a row's words -/
theorem ws_mem {lab : Nat → Tx} {r : PRow} {m : Nat} (h : r.ok m) (hl : ∀ a, r.goal = some a → nmB (lab a) = true) : ∀ w ∈ r.ws lab, (∀ c ∈ w, 33 ≤ c ∧ c ≤ 122) ∧ w.length ≤ 8 := by
  have k : ∀ w ∈ [wSet, wAdd, wTake, wTell, wAsk, wStop, wJump, wZero], (∀ c ∈ w, 33 ≤ c ∧ c ≤ 122) ∧ w.length ≤ 8 := by decide
  have sp : ∀ s, spB s → (∀ c ∈ [s], 33 ≤ c ∧ c ≤ 122) ∧ ([s] : Tx).length ≤ 8 := fun s hs => ⟨fun c hc => by rw [List.mem_singleton.mp hc]; obtain ⟨a, b⟩ := hs; omega, by show 1 ≤ 8; decide⟩
  have nm : ∀ a, r.goal = some a → (∀ c ∈ lab a, 33 ≤ c ∧ c ≤ 122) ∧ (lab a).length ≤ 8 := fun a ha => by
    obtain ⟨_, h8, hc⟩ := nm_mem (hl a ha)
    exact ⟨fun c z => by have := hc c z; omega, h8⟩
  intro w hw
  cases r with
  | set s n =>
    obtain ⟨h1, h2⟩ := h
    obtain ⟨_, _, d3, d4⟩ := dec_ok h2
    simp only [PRow.ws, List.mem_cons, List.not_mem_nil, or_false] at hw
    rcases hw with rfl | rfl | rfl
    · exact k _ (by simp)
    · exact sp _ h1
    · exact ⟨fun c hc => by have := d3 c hc; omega, by omega⟩
  | two t s u =>
    simp only [PRow.ws, List.mem_cons, List.not_mem_nil, or_false] at hw
    rcases hw with rfl | rfl | rfl
    · rcases wTwo_or t with e | e <;> rw [e] <;> exact k _ (by simp)
    · exact sp _ h.1
    · exact sp _ h.2
  | one t s =>
    simp only [PRow.ws, List.mem_cons, List.not_mem_nil, or_false] at hw
    rcases hw with rfl | rfl
    · rcases wOne_or t with e | e <;> rw [e] <;> exact k _ (by simp)
    · exact sp _ h
  | stop =>
    simp only [PRow.ws, List.mem_cons, List.not_mem_nil, or_false] at hw
    rw [hw]; exact k _ (by simp)
  | jump a =>
    simp only [PRow.ws, List.mem_cons, List.not_mem_nil, or_false] at hw
    rcases hw with rfl | rfl
    · exact k _ (by simp)
    · exact nm a rfl
  | zero s a =>
    simp only [PRow.ws, List.mem_cons, List.not_mem_nil, or_false] at hw
    rcases hw with rfl | rfl | rfl
    · exact k _ (by simp)
    · exact sp _ h.1
    · exact nm a rfl
/-- items of a sheet -/
inductive Itm where
  | lab (n : Tx) | emp | row (r : PRow)
def Itm.t (lab : Nat → Tx) : Itm → Tx
  | .lab n => n ++ [58]
  | .emp => []
  | .row r => joinT [32] (r.ws lab)
def rowsI : List Itm → List PRow
  | [] => []
  | .row r :: its => r :: rowsI its
  | _ :: its => rowsI its
/-- labels and their places -/
def plI : List Itm → Nat → List (Tx × Nat)
  | [], _ => []
  | .lab n :: its, k => (n, k) :: plI its k
  | .row _ :: its, k => plI its (k + 1)
  | .emp :: its, k => plI its k
structure ItOk (lab : Nat → Tx) (known : List Tx) (m : Nat) (it : Itm) : Prop where
  l : ∀ n, it = .lab n → nmB n = true
  r : ∀ r, it = .row r → r.ok m ∧ ∀ a, r.goal = some a → nmB (lab a) = true ∧ lab a ∈ known
theorem free_ge {w : Tx} {c : Nat} (h : ∀ x ∈ w, 33 ≤ x ∧ x ≤ 122) (hc : c < 33) : c ∉ w := fun z => by have := h c z; omega
theorem spl_row {lab : Nat → Tx} {r : PRow} {m : Nat} (h : r.ok m) (hl : ∀ a, r.goal = some a → nmB (lab a) = true) : spl 32 (joinT [32] (r.ws lab)) = r.ws lab :=
  spl_join 32 _ (by cases r <;> simp [PRow.ws]) fun w hw => free_ge (ws_mem h hl w hw).1 (by decide)
theorem row_ne {lab : Nat → Tx} {r : PRow} {m : Nat} (h : r.ok m) (hl : ∀ a, r.goal = some a → nmB (lab a) = true) : joinT [32] (r.ws lab) ≠ [] := by
  intro z
  have := spl_row h hl
  rw [z] at this
  have e : spl 32 [] = [[]] := rfl
  rw [e] at this
  cases r <;> simp [PRow.ws, wStop] at this
theorem labOf_t {n : Tx} (h : nmB n = true) : labOf (spl 32 (n ++ [58])) = some n := by
  obtain ⟨h1, _, hc⟩ := nm_mem h
  have hf : 32 ∉ n ++ [58] := fun z => by
    rcases List.mem_append.mp z with z | z
    · have := hc 32 z; omega
    · simp at z
  rw [spl_one 32 _ hf, labOf_1]
  have e : (n ++ [58]).take ((n ++ [58]).length - 1) = n := by rw [List.length_append, List.length_singleton, Nat.add_sub_cancel, List.take_left]
  have hs : ([58] : Tx).isSuffixOf (n ++ [58]) = true := List.isSuffixOf_iff_suffix.mpr ⟨n, rfl⟩
  rw [e, if_pos ⟨hs, h⟩]
theorem labOf_nil : labOf (spl 32 []) = none := by decide
theorem readI {lab : Nat → Tx} {known : List Tx} {m : Nat} : ∀ (its : List Itm) (st : Rg) (i : Nat), (∀ it ∈ its, ItOk lab known m it) → (st.ns ++ (plI its st.rows.length).map Prod.fst).Nodup → st.rows.length + (rowsI its).length ≤ 200 →
    readR known (its.map (Itm.t lab)) st i = .ok ⟨st.rows ++ (rowsI its).map (PRow.sr lab), st.ns ++ (plI its st.rows.length).map Prod.fst, st.ps ++ (plI its st.rows.length).map Prod.snd⟩
  | [], st, i, _, _, _ => by simp [readR, rowsI, plI]
  | .emp :: its, st, i, h, nd, hl => by
    have := readI its st (i + 1) (fun it hit => h it (List.mem_cons_of_mem _ hit)) nd hl
    rw [List.map_cons, readR, if_pos (show Itm.t lab .emp = [] from rfl)]
    exact this
  | .lab n :: its, st, i, h, nd, hl => by
    have hn := (h (.lab n) (by simp)).l n rfl
    rw [plI, List.map_cons] at nd
    have hnew : n ∉ st.ns := fun z => by
      rw [List.nodup_append] at nd
      exact nd.2.2 n z n (by simp) rfl
    have ht : takeR known st (spl 32 (n ++ [58])) = some { st with ns := st.ns ++ [n], ps := st.ps ++ [st.rows.length] } := by
      unfold takeR
      rw [labOf_t hn]
      exact if_neg hnew
    have ih := readI its { st with ns := st.ns ++ [n], ps := st.ps ++ [st.rows.length] } (i + 1) (fun it hit => h it (List.mem_cons_of_mem _ hit)) (by simpa using nd) hl
    rw [List.map_cons, readR, if_neg (by simp [Itm.t])]
    show (match takeR known st (spl 32 (n ++ [58])) with | none => _ | some st' => _) = _
    rw [ht]
    show readR known _ _ _ = _
    rw [ih]
    simp [rowsI, plI]
  | .row r :: its, st, i, h, nd, hl => by
    obtain ⟨hr, hg⟩ := (h (.row r) (by simp)).r r rfl
    have hg1 : ∀ a, r.goal = some a → nmB (lab a) = true := fun a ha => (hg a ha).1
    rw [rowsI, List.length_cons] at hl
    have ht : takeR known st (spl 32 (joinT [32] (r.ws lab))) = some { st with rows := st.rows ++ [r.sr lab] } := by
      unfold takeR
      rw [spl_row hr hg1, labOf_ws, rowOf_ws hr hg1]
      show (if _ then _ else _) = _
      rw [if_neg (by omega)]
      cases e : (r.sr lab).g with
      | none => rfl
      | some n =>
        have : n ∈ known := by
          cases r with
          | jump a => cases e; exact (hg a rfl).2
          | zero s a => cases e; exact (hg a rfl).2
          | _ => cases e
        exact if_pos this
    have ih := readI its { st with rows := st.rows ++ [r.sr lab] } (i + 1) (fun it hit => h it (List.mem_cons_of_mem _ hit)) (by simpa [plI] using nd) (by simp; omega)
    rw [List.map_cons, readR, if_neg (show ¬ Itm.t lab (.row r) = [] from row_ne hr hg1)]
    show (match takeR known st (spl 32 (joinT [32] (r.ws lab))) with | none => _ | some st' => _) = _
    rw [ht]
    show readR known _ _ _ = _
    rw [ih]
    simp [rowsI, plI]
/-! a text of items is read as its rows -/
def txI (lab : Nat → Tx) (its : List Itm) : Tx := joinT [10] (its.map (Itm.t lab))
theorem labs_items {lab : Nat → Tx} {known : List Tx} {m : Nat} : ∀ (its : List Itm) (k : Nat), (∀ it ∈ its, ItOk lab known m it) → labs (its.map (Itm.t lab)) = (plI its k).map Prod.fst
  | [], k, _ => rfl
  | .emp :: its, k, h => by
    have ih := labs_items its k fun it hit => h it (List.mem_cons_of_mem _ hit)
    show (([] : Tx) :: its.map (Itm.t lab)).filterMap _ = _
    rw [List.filterMap_cons, labOf_nil]
    exact ih
  | .lab n :: its, k, h => by
    have ih := labs_items its k fun it hit => h it (List.mem_cons_of_mem _ hit)
    show ((n ++ [58]) :: its.map (Itm.t lab)).filterMap _ = _
    rw [List.filterMap_cons, labOf_t ((h (.lab n) (by simp)).l n rfl)]
    show n :: labs (its.map (Itm.t lab)) = _
    rw [ih]; rfl
  | .row r :: its, k, h => by
    have ih := labs_items its (k + 1) fun it hit => h it (List.mem_cons_of_mem _ hit)
    obtain ⟨hr, hg⟩ := (h (.row r) (by simp)).r r rfl
    show (joinT [32] (r.ws lab) :: its.map (Itm.t lab)).filterMap _ = _
    rw [List.filterMap_cons, spl_row hr fun a ha => (hg a ha).1, labOf_ws]
    exact ih
theorem joinT_len (c : Nat) (k : Nat) : ∀ ts : List Tx, (∀ t ∈ ts, t.length ≤ k) → (joinT [c] ts).length ≤ ts.length * (k + 1)
  | [], _ => Nat.zero_le _
  | [t], h => by show t.length ≤ _; have := h t (by simp); simp; omega
  | t :: u :: r, h => by
    have ih := joinT_len c k (u :: r) fun t ht => h t (List.mem_cons_of_mem _ ht)
    have := h t (by simp)
    rw [joinT_cons c t (by simp), List.length_append, List.length_cons (a := c)]
    rw [List.length_cons (a := t), Nat.succ_mul]
    omega
theorem joinT_mem (c : Nat) : ∀ (ts : List Tx) (x : Nat), x ∈ joinT [c] ts → x = c ∨ ∃ t ∈ ts, x ∈ t
  | [], x, h => by cases h
  | [t], x, h => .inr ⟨t, by simp, h⟩
  | t :: u :: r, x, h => by
    rw [joinT_cons c t (by simp)] at h
    rcases List.mem_append.mp h with h | h
    · exact .inr ⟨t, by simp, h⟩
    · rcases List.mem_cons.mp h with h | h
      · exact .inl h
      · rcases joinT_mem c (u :: r) x h with h | ⟨v, hv, h⟩
        · exact .inl h
        · exact .inr ⟨v, List.mem_cons_of_mem _ hv, h⟩
theorem t_ok {lab : Nat → Tx} {known : List Tx} {m : Nat} {it : Itm} (h : ItOk lab known m it) : (∀ c ∈ it.t lab, 32 ≤ c ∧ c ≤ 122) ∧ (it.t lab).length ≤ 27 := by
  cases it with
  | lab n =>
    obtain ⟨_, h8, hc⟩ := nm_mem (h.l n rfl)
    refine ⟨fun c z => ?_, ?_⟩
    · rcases List.mem_append.mp z with z | z
      · have := hc c z; omega
      · rw [List.mem_singleton.mp z]; omega
    · show (n ++ [58]).length ≤ 27
      rw [List.length_append, List.length_singleton]; omega
  | emp => exact ⟨fun c z => (by cases z), Nat.zero_le _⟩
  | row r =>
    obtain ⟨hr, hg⟩ := h.r r rfl
    have hw := ws_mem hr fun a ha => (hg a ha).1
    refine ⟨fun c z => ?_, ?_⟩
    · rcases joinT_mem 32 _ c z with z | ⟨w, hm, z⟩
      · omega
      · have := (hw w hm).1 c z; omega
    · have := joinT_len 32 8 (r.ws lab) fun t ht => (hw t ht).2
      have h3 : (r.ws lab).length ≤ 3 := by cases r <;> simp [PRow.ws]
      show (joinT [32] (r.ws lab)).length ≤ 27
      omega
theorem txI_tok {lab : Nat → Tx} {known : List Tx} {m : Nat} {its : List Itm} (h : ∀ it ∈ its, ItOk lab known m it) (hl : its.length ≤ 30000) : Tok (txI lab its) := by
  refine ⟨fun c hc => ?_, ?_⟩
  · rcases joinT_mem 10 _ c hc with z | ⟨t, ht, z⟩
    · omega
    · obtain ⟨it, hit, rfl⟩ := List.mem_map.mp ht
      have := (t_ok (h it hit)).1 c z; omega
  · have := joinT_len 10 27 (its.map (Itm.t lab)) fun t ht => by
      obtain ⟨it, hit, rfl⟩ := List.mem_map.mp ht
      exact (t_ok (h it hit)).2
    rw [List.length_map] at this
    unfold txI
    omega
theorem find_pl : ∀ {ps : List (Tx × Nat)} {n : Tx} {a : Nat}, (ps.map Prod.fst).Nodup → (n, a) ∈ ps → ps.find? (fun p => decide (p.1 = n)) = some (n, a)
  | [], _, _, _, h => by cases h
  | p :: ps, n, a, nd, h => by
    rw [List.map_cons, List.nodup_cons] at nd
    rw [List.find?_cons]
    rcases List.mem_cons.mp h with rfl | h
    · simp
    · have : p.1 ≠ n := fun z => nd.1 (by rw [z]; exact List.mem_map.mpr ⟨(n, a), h, rfl⟩)
      rw [decide_eq_false this]
      exact find_pl nd.2 h
theorem zip_fs (ps : List (Tx × Nat)) : (ps.map Prod.fst).zip (ps.map Prod.snd) = ps := by
  induction ps with
  | nil => rfl
  | cons p ps ih => simp only [List.map_cons, List.zip_cons_cons, ih]
/-- items that tell their rows as a program -/
structure Tel (lab : Nat → Tx) (m : Nat) (its : List Itm) : Prop where
  n : ∀ n k, (n, k) ∈ plI its 0 → nmB n = true
  r : ∀ r ∈ rowsI its, r.ok m ∧ ∀ a, r.goal = some a → (lab a, a) ∈ plI its 0
  d : ((plI its 0).map Prod.fst).Nodup
  l : (rowsI its).length ≤ 200
  c : its.length ≤ 30000
theorem mem_rows : ∀ {its : List Itm} {r : PRow}, .row r ∈ its → r ∈ rowsI its
  | .emp :: its, r, h => mem_rows (its := its) (by simpa using h)
  | .lab n :: its, r, h => mem_rows (its := its) (by simpa using h)
  | .row s :: its, r, h => by
    rcases List.mem_cons.mp h with h | h
    · cases h; simp [rowsI]
    · exact List.mem_cons_of_mem _ (mem_rows h)
theorem mem_pl : ∀ {its : List Itm} {n : Tx} (k : Nat), .lab n ∈ its → ∃ j, (n, j) ∈ plI its k
  | .emp :: its, n, k, h => mem_pl (its := its) k (by simpa using h)
  | .row s :: its, n, k, h => mem_pl (its := its) (k + 1) (by simpa using h)
  | .lab m :: its, n, k, h => by
    rcases List.mem_cons.mp h with h | h
    · cases h; exact ⟨k, by simp [plI]⟩
    · obtain ⟨j, hj⟩ := mem_pl k h
      exact ⟨j, List.mem_cons_of_mem _ hj⟩
theorem Tel.ok {lab : Nat → Tx} {m : Nat} {its : List Itm} (h : Tel lab m its) : ∀ it ∈ its, ItOk lab ((plI its 0).map Prod.fst) m it := fun it hit => by
  refine ⟨fun n e => ?_, fun r e => ?_⟩
  · obtain ⟨j, hj⟩ := mem_pl 0 (by rw [← e]; exact hit)
    exact h.n n j hj
  · obtain ⟨h1, h2⟩ := h.r r (mem_rows (by rw [← e]; exact hit))
    exact ⟨h1, fun a ha => ⟨h.n _ _ (h2 a ha), List.mem_map.mpr ⟨_, h2 a ha, rfl⟩⟩⟩
theorem prog_sr {lab : Nat → Tx} {st : Rg} {r : PRow} (h : ∀ a, r.goal = some a → lookR st (lab a) = a) : progOf st (r.sr lab) = r.d := by
  cases r with
  | jump a => show D.tup ([.str wJump] ++ [.int (lookR st (lab a) : Nat)]) = _; rw [h a rfl]; rfl
  | zero s a => show D.tup ([.str wZero, .str [s]] ++ [.int (lookR st (lab a) : Nat)]) = _; rw [h a rfl]; rfl
  | _ => rfl
theorem Tel.emp {lab : Nat → Tx} {m : Nat} (h : Tel lab m []) : Tel lab m [.emp] := ⟨h.n, h.r, h.d, h.l, by decide⟩
theorem tel_read {lab : Nat → Tx} {m : Nat} {its : List Itm} (hn : its ≠ []) (h : Tel lab m its) : ∃ st, readR (labs (spl 10 (txI lab its))) (spl 10 (txI lab its)) ⟨[], [], []⟩ 0 = .ok st ∧ st.rows.map (progOf st) = (rowsI its).map PRow.d := by
  have hi := h.ok
  have hs : spl 10 (txI lab its) = its.map (Itm.t lab) := spl_join 10 _ (by simpa using hn) fun p hp z => by
    obtain ⟨it, hit, rfl⟩ := List.mem_map.mp hp
    have := (t_ok (hi it hit)).1 10 z
    omega
  rw [hs, labs_items its 0 hi]
  refine ⟨_, readI its ⟨[], [], []⟩ 0 hi (by simpa using h.d) (by simpa using h.l), ?_⟩
  show List.map _ ([] ++ (rowsI its).map (PRow.sr lab)) = _
  rw [List.nil_append, List.map_map]
  refine List.map_congr_left fun r hr => prog_sr fun a ha => ?_
  show (List.find? _ (([] ++ (plI its 0).map Prod.fst).zip ([] ++ (plI its 0).map Prod.snd))).elim 0 Prod.snd = a
  rw [List.nil_append, List.nil_append, zip_fs, find_pl h.d ((h.r r hr).2 a ha)]; rfl
theorem rpI_ok {lab : Nat → Tx} {m : Nat} {its : List Itm} (h : Tel lab m its) {Φ : T → Od.Env → Prop} {Ψ : Exn → Od.Env → Prop} (q : Φ (.lst ((rowsI its).map PRow.d)) [none]) : satO (f_read_program [.sh (.str (txI lab its))]) Φ Ψ := by
  have key : ∀ its : List Itm, its ≠ [] → Tel lab m its → Φ (.lst ((rowsI its).map PRow.d)) [none] → satO (f_read_program [.sh (.str (txI lab its))]) Φ Ψ := fun its hn h q => by
    obtain ⟨st, e1, e2⟩ := tel_read hn h
    refine rp_ok (txI_tok h.ok h.c) (fun st' e => ?_) fun i e => ?_
    · rw [e1] at e
      cases e
      rw [e2]; exact q
    · rw [e1] at e; cases e
  rcases its with _ | ⟨it, its⟩
  · exact key [.emp] (by simp) h.emp q
  · exact key _ (by simp) h q
theorem fAll_bls {α : Type} (p : α → Bool) (xs : List α) {Φ : D → Prop} : ex (fAll [.lst (xs.map fun x => .bl (p x))]) Φ = Φ (.bl (xs.all p)) := by
  have e : ∀ ys : List α, allBls (ys.map fun x => D.bl (p x)) = some (ys.map p) := fun ys => by
    induction ys with
    | nil => rfl
    | cons y ys ih => show (allBls (ys.map _)).map (p y :: ·) = _; rw [ih]; rfl
  have : fAll [.lst (xs.map fun x => D.bl (p x))] = some (.bl (xs.all p)) := by
    show (allBls _).map _ = _
    rw [e xs]
    show some (D.bl ((xs.map p).all id)) = _
    rw [List.all_map]; rfl
  rw [this]; rfl
/-! the law's own reading of a row -/
theorem in_one (c : Nat) (z : Tx) {ΦB : Bool → Prop} : ex (cIn (.str [c]) (.str z)) ΦB = ΦB (decide (c ∈ z)) := rfl
theorem lname_ok {s : Tx} (hl : s.length ≤ 1000000) {Φ : T → Od.Env → Prop} {Ψ : Exn → Od.Env → Prop} (q : Φ (.sh (.bl (nmB s))) [none]) : satO (f__law_is_name [.sh (.str s)]) Φ Ψ := by
  simp only [f__law_is_name, B__law_is_name]
  sizeOf_list_dec
  refine ⟨rfl, hl, fun h1 => ⟨fun h8 => ?_, fun h8 => ?_⟩, fun h1 => ?_⟩
  · refine cmp_i (fun i acc ρ => acc = (s.take i).map (fun c => D.bl (decide (c ∈ abc))) ∧ ρ = [some (T.sh (.str s)), none]) (by rw [List.length_map]; omega) ⟨rfl, rfl⟩ ?_ ?_
    · rintro i x acc ρ hx _ ⟨rfl, rfl⟩
      rw [List.getElem?_map] at hx
      obtain ⟨c, hc, rfl⟩ := Option.map_eq_some_iff.mp hx
      sizeOf_list_dec
      rw [in_one, take_s hc, List.map_append]; rfl
    · rintro acc ρ _ ⟨rfl, rfl⟩
      rw [List.length_map, List.take_of_length_le (Nat.le_refl _)]
      sizeOf_list_dec
      rw [fAll_bls]
      have e : nmB s = s.all fun c => decide (c ∈ abc) := by
        unfold nmB
        rw [decide_eq_true (show 1 ≤ s.length by omega), decide_eq_true (show s.length ≤ 8 by omega), Bool.true_and, Bool.true_and]
        congr 1; funext c
        rw [Bool.eq_iff_iff, List.contains_iff_mem, decide_eq_true_eq]
      rw [e] at q
      exact q
  · have e : nmB s = false := by unfold nmB; rw [decide_eq_false (show ¬ s.length ≤ 8 by omega), Bool.and_false, Bool.false_and]
    rw [e] at q
    exact q
  · have e : nmB s = false := by unfold nmB; rw [decide_eq_false (show ¬ 1 ≤ s.length by omega), Bool.false_and, Bool.false_and]
    rw [e] at q
    exact q
theorem lfig_ok {s : Tx} (hl : s.length ≤ 1000000) {Φ : T → Od.Env → Prop} {Ψ : Exn → Od.Env → Prop} (q : Φ (.sh (.bl (numB s))) [none]) : satO (f__law_is_figures [.sh (.str s)]) Φ Ψ := by
  simp only [f__law_is_figures, B__law_is_figures]
  sizeOf_list_dec
  refine ⟨rfl, hl, fun h1 => ⟨fun h3 => ?_, fun h3 => ?_⟩, fun h1 => ?_⟩
  · have e : numB s = false := by unfold numB; rw [decide_eq_false (show ¬ s.length ≤ 3 by omega)]; simp
    rw [e] at q
    exact q
  · refine cmp_i (fun i acc ρ => acc = (s.take i).map (fun c => D.bl (decide (c ∈ figs10))) ∧ ρ = [some (T.sh (.str s)), none]) (by rw [List.length_map]; omega) ⟨rfl, rfl⟩ ?_ ?_
    · rintro i x acc ρ hx _ ⟨rfl, rfl⟩
      rw [List.getElem?_map] at hx
      obtain ⟨c, hc, rfl⟩ := Option.map_eq_some_iff.mp hx
      sizeOf_list_dec
      rw [in_one, take_s hc, List.map_append]; rfl
    · rintro acc ρ _ ⟨rfl, rfl⟩
      rw [List.length_map, List.take_of_length_le (Nat.le_refl _)]
      sizeOf_list_dec
      rw [fAll_bls]
      have ea : (s.all fun c => decide (c ∈ figs10)) = s.all fun c => figs10.contains c := by
        congr 1; funext c
        rw [Bool.eq_iff_iff, List.contains_iff_mem, decide_eq_true_eq]
      rw [ea]
      have ed : decide ((NumText.digitsVal s : Int) < 256) = decide (NumText.digitsVal s ≤ 255) := decide_eq_decide.mpr (by omega)
      have e : numB s = ((s.all fun c => figs10.contains c) && (decide (s = [48]) || !([48] : Tx).isPrefixOf s) && decide (NumText.digitsVal s ≤ 255)) := by
        unfold numB
        rw [decide_eq_true (show 1 ≤ s.length by omega), decide_eq_true (show s.length ≤ 3 by omega)]
        simp only [Bool.true_and]
      sizeOf_list_dec
      rw [ed]
      refine ⟨fun hf => ?_, fun hf => ?_⟩
      · rw [e, hf] at q
        exact q
      · have hd : digB s = true := digs_ok hf (by omega) (by omega)
        rw [e, hf, Bool.true_and] at q
        refine ⟨fun h0 => ⟨hd, ?_⟩, fun h0 => ⟨hl, ?_⟩⟩
        · rw [decide_eq_true h0] at q
          exact q
        · rw [decide_eq_false h0, Bool.false_or] at q
          rcases s with _ | ⟨c, r⟩
          · exact absurd h1 (by simp)
          · rw [k_at0]
            by_cases hc : c = 48
            · subst hc
              refine ⟨fun z => absurd rfl z, fun _ => ?_⟩
              have : ([48] : Tx).isPrefixOf (48 :: r) = true := by simp [List.isPrefixOf]
              rw [this] at q
              exact q
            · refine ⟨fun _ => ⟨hd, ?_⟩, fun z => absurd (by simpa using z) hc⟩
              have : ([48] : Tx).isPrefixOf (c :: r) = false := by simp [List.isPrefixOf, Ne.symm hc]
              rw [this] at q
              exact q
  · have e : numB s = false := by unfold numB; rw [decide_eq_false (show ¬ 1 ≤ s.length by omega)]; simp
    rw [e] at q
    exact q
/-- what a row tells, as the law has it -/
def toldD (ws : List Tx) : D := match labOf ws with
  | some n => .tup [.str [108, 97, 98, 101, 108], .str n]
  | none => match rowOf ws with
    | some r => .tup [.str [114, 111, 119], r.d]
    | none => .non
theorem cut_end (s : Tx) : cutD s (some (-1)) none = s.drop (s.length - 1) := by
  unfold cutD
  simp only [HT.sIx]
  rw [if_pos (by decide)]
  have e : (max 0 (-1 + (s.length : Int))).toNat = s.length - 1 := by omega
  rw [List.take_of_length_le]
  · congr 1
    try omega
  · rw [List.length_drop]
    try omega
theorem last_colon (w : Tx) : (w.drop (w.length - 1) = [58]) ↔ ([58] : Tx).isSuffixOf w = true := by
  rw [List.isSuffixOf_iff_suffix]
  constructor
  · intro h
    exact ⟨w.take (w.length - 1), by rw [← h, List.take_append_drop]⟩
  · rintro ⟨t, rfl⟩
    rw [List.length_append, List.length_singleton, Nat.add_sub_cancel, List.drop_left]
theorem toldD_1 (w : Tx) : toldD [w] = if w = wStop then .tup [.str [114, 111, 119], .tup [.str wStop]] else if ([58] : Tx).isSuffixOf w = true ∧ nmB (w.take (w.length - 1)) = true then .tup [.str [108, 97, 98, 101, 108], .str (w.take (w.length - 1))] else .non := by
  unfold toldD
  rw [labOf_1]
  by_cases h : w = wStop
  · subst h
    rw [if_neg (by decide), if_pos rfl]; rfl
  · rw [if_neg h]
    have e : rowOf [w] = none := if_neg h
    rw [e]
    split <;> rename_i n hn
    · split at hn
      · rename_i hc
        cases hn
        rw [if_pos hc]
      · cases hn
    · split at hn
      · cases hn
      · rename_i hc
        rw [if_neg hc]
theorem toldD_2 (w s : Tx) : toldD [w, s] = match rowOf [w, s] with | some r => .tup [.str [114, 111, 119], r.d] | none => .non := rfl
theorem toldD_3 (w s t : Tx) : toldD [w, s, t] = match rowOf [w, s, t] with | some r => .tup [.str [114, 111, 119], r.d] | none => .non := rfl
theorem rt1_ok {w : Tx} (hw : w.length ≤ 1000000) {Φ : T → Od.Env → Prop} {Ψ : Exn → Od.Env → Prop} (q : Φ (.sh (toldD [w])) [none]) : satO (f__law_row_told [.sh (.lst ([w].map .str))]) Φ Ψ := by
  rw [toldD_1] at q
  simp only [f__law_row_told, B__law_row_told]
  simp only [List.map_cons, List.map_nil]
  sizeOf_list_dec
  rw [cut_end]
  have hc := last_colon w
  refine ⟨rfl, fun _ => ⟨fun h => ⟨by simp, by simp, ?_⟩, fun h => ⟨hw, fun h2 => ⟨rfl, hw, ?_⟩, fun h2 => ?_⟩⟩, fun z => absurd rfl z⟩
  · have h : w = wStop := h
    rw [if_pos h] at q
    exact q
  · have h : ¬ w = wStop := h
    rw [if_neg h] at q
    rw [cut_last]
    refine lname_ok (by rw [List.length_take]; omega) ?_
    sizeOf_list_dec
    refine ⟨fun h3 => ⟨hw, by simp, ?_⟩, fun h3 => ?_⟩
    · rw [if_pos ⟨hc.mp h2, h3⟩] at q
      rw [cut_last]
      exact q
    · rw [if_neg fun z => by rw [z.2] at h3; cases h3] at q
      exact q
  · have h : ¬ w = wStop := h
    rw [if_neg h, if_neg fun z => h2 (hc.mpr z.1)] at q
    exact q
theorem rt2_ok {w s : Tx} (hs : s.length ≤ 1000000) {Φ : T → Od.Env → Prop} {Ψ : Exn → Od.Env → Prop} (q : Φ (.sh (toldD [w, s])) [none]) : satO (f__law_row_told [.sh (.lst ([w, s].map .str))]) Φ Ψ := by
  rw [toldD_2, rowOf_2] at q
  simp only [f__law_row_told, B__law_row_told]
  simp only [List.map_cons, List.map_nil]
  have e21 : ((([D.str w, D.str s].length : Nat) : Int) = 1) = False := by simp
  have e22 : ((([D.str w, D.str s].length : Nat) : Int) = 2) = True := by simp
  have e23 : ((3 : Int) < (([D.str w, D.str s].length : Nat) : Int)) = False := by simp
  have e23' : ((([D.str w, D.str s].length : Nat) : Int) ≤ 3) = True := by simp
  rcases Classical.em (w = wJump) with h | h
  · subst h
    rw [if_pos rfl] at q
    unfold wJump at *
    simp_wf
    simp only [e21, e22, false_implies, true_implies, not_true_eq_false, not_false_eq_true, Bool.not_true, Bool.not_false, Bool.false_eq_true, Bool.true_eq_false, reduceCtorEq, true_and, and_true, forall_const, implies_true]
    refine ⟨rfl, rfl, lname_ok hs ?_⟩
    simp_wf
    refine ⟨fun h3 => ⟨by simp, by simp, ?_⟩, fun h3 => ?_⟩
    · rw [if_pos h3] at q
      exact q
    · rw [if_neg (by rw [h3]; decide)] at q
      exact q
  · rw [if_neg h] at q
    unfold wJump at h
    sizeOf_list_dec
    simp only [e21, e22, h, false_implies, true_implies, not_true_eq_false, not_false_eq_true, Bool.not_true, Bool.not_false, Bool.false_eq_true, Bool.true_eq_false, reduceCtorEq, true_and, and_true, forall_const, implies_true]
    rw [cN4]
    refine ⟨rfl, by simp, fun h2 => ?_, fun h2 => ⟨fun z => (by simp at z), fun _ => ⟨by simp, fun h3 => ⟨by simp, ?_⟩, fun h3 => ?_⟩⟩⟩
    · have h2 : spots4.contains s = false := by simpa using h2
      rw [if_neg fun z => by rw [z.1] at h2; cases h2] at q
      exact q
    · have h2 : spots4.contains s = true := by simpa using h2
      rw [if_pos ⟨h2, h3⟩] at q
      exact q
    · rw [if_neg fun z => h3 z.2] at q
      exact q
theorem rt4_ok {w s t u : Tx} {r : List Tx} {Φ : T → Od.Env → Prop} {Ψ : Exn → Od.Env → Prop} (q : Φ (.sh .non) [none]) : satO (f__law_row_told [.sh (.lst ((w :: s :: t :: u :: r).map .str))]) Φ Ψ := by
  simp only [f__law_row_told, B__law_row_told]
  simp only [List.map_cons, List.map_nil]
  have e1 : ((((D.str w :: D.str s :: D.str t :: D.str u :: r.map D.str).length : Nat) : Int) = 1) = False := by
    rw [eq_iff_iff]; simp only [List.length_cons, iff_false]; omega
  have e2 : ((((D.str w :: D.str s :: D.str t :: D.str u :: r.map D.str).length : Nat) : Int) = 2) = False := by
    rw [eq_iff_iff]; simp only [List.length_cons, iff_false]; omega
  have e3 : ((3 : Int) < (((D.str w :: D.str s :: D.str t :: D.str u :: r.map D.str).length : Nat) : Int)) = True := by
    rw [eq_iff_iff]; simp only [List.length_cons, iff_true]; omega
  have e4 : ((((D.str w :: D.str s :: D.str t :: D.str u :: r.map D.str).length : Nat) : Int) ≤ 3) = False := by
    rw [eq_iff_iff]; simp only [List.length_cons, iff_false]; omega
  sizeOf_list_dec
  simp only [e1, e2, e3, e4, false_implies, true_implies, not_true_eq_false, not_false_eq_true, Bool.not_true, Bool.not_false, Bool.false_eq_true, Bool.true_eq_false, reduceCtorEq, true_and, and_true, forall_const, implies_true]
  rw [cN4]
  exact ⟨rfl, fun _ => q, fun _ => ⟨by simp, fun _ => q, fun _ => q⟩⟩
def fineK : List DK := [.inr [115, 101, 116], .inr [122, 101, 114, 111], .inr [97, 100, 100], .inr [116, 97, 107, 101]]
theorem fine1 (a b c : D) : putKD [.inr [115, 101, 116], .inr [122, 101, 114, 111]] [a, b] (.inr [97, 100, 100]) c = ([.inr [115, 101, 116], .inr [122, 101, 114, 111], .inr [97, 100, 100]], [a, b, c]) := rfl
theorem fine2 (a b c d : D) : putKD [.inr [115, 101, 116], .inr [122, 101, 114, 111], .inr [97, 100, 100]] [a, b, c] (.inr [116, 97, 107, 101]) d = (fineK, [a, b, c, d]) := rfl
theorem fine3 (a b c : D) {Φ : D → Prop} : ex (fIdx (.dct [.inr [115, 101, 116], .inr [122, 101, 114, 111], .inr [97, 100, 100]] [a, b, c]) (.str [97, 100, 100])) Φ = Φ c := rfl
theorem fineL (a b c d : D) (w : Tx) : kLook fineK [a, b, c, d] (.inr w) = if w = wSet then some a else if w = wZero then some b else if w = wAdd then some c else if w = wTake then some d else none := by
  unfold kLook fineK
  simp only [List.zip_cons_cons, List.zip_nil_left, List.find?_cons]
  have e : ∀ v : Tx, decide ((Sum.inr v : DK) = .inr w) = decide (w = v) := fun v => decide_eq_decide.mpr ⟨fun z => (Sum.inr.inj z).symm, fun z => by rw [z]⟩
  rw [e, e, e, e]
  by_cases h1 : w = wSet
  · subst h1; rfl
  · rw [if_neg h1, decide_eq_false (show ¬ w = [115, 101, 116] from h1)]
    by_cases h2 : w = wZero
    · subst h2; rfl
    · rw [if_neg h2, decide_eq_false (show ¬ w = [122, 101, 114, 111] from h2)]
      by_cases h3 : w = wAdd
      · subst h3; rfl
      · rw [if_neg h3, decide_eq_false (show ¬ w = [97, 100, 100] from h3)]
        by_cases h4 : w = wTake
        · subst h4; rfl
        · rw [if_neg h4, decide_eq_false (show ¬ w = [116, 97, 107, 101] from h4)]; rfl
theorem rt3_ok {w s t : Tx} (ht : t.length ≤ 1000000) {Φ : T → Od.Env → Prop} {Ψ : Exn → Od.Env → Prop} (q : Φ (.sh (toldD [w, s, t])) [none]) : satO (f__law_row_told [.sh (.lst ([w, s, t].map .str))]) Φ Ψ := by
  rw [toldD_3, rowOf_3] at q
  simp only [f__law_row_told, B__law_row_told]
  simp only [List.map_cons, List.map_nil]
  have e21 : ((([D.str w, D.str s, D.str t].length : Nat) : Int) = 1) = False := by simp
  have e22 : ((([D.str w, D.str s, D.str t].length : Nat) : Int) = 2) = False := by simp
  have e23 : ((3 : Int) < (([D.str w, D.str s, D.str t].length : Nat) : Int)) = False := by simp
  have e24 : ((([D.str w, D.str s, D.str t].length : Nat) : Int) ≤ 3) = True := by simp
  rcases Classical.em (w = wJump) with h | h
  · subst h
    rw [if_pos rfl] at q
    unfold wJump at *
    simp_wf
    have e21 : ((([D.str [106, 117, 109, 112], D.str s, D.str t].length : Nat) : Int) = 1) = False := by simp
    have e22 : ((([D.str [106, 117, 109, 112], D.str s, D.str t].length : Nat) : Int) = 2) = False := by simp
    simp only [e21, e22, false_implies, true_implies, not_true_eq_false, not_false_eq_true, Bool.not_true, Bool.not_false, Bool.false_eq_true, Bool.true_eq_false, reduceCtorEq, true_and, and_true, forall_const, implies_true]
    exact ⟨rfl, q⟩
  · rw [if_neg h] at q
    unfold wJump at h
    sizeOf_list_dec
    simp only [e21, e22, e23, e24, h, false_implies, true_implies, not_true_eq_false, not_false_eq_true, Bool.not_true, Bool.not_false, Bool.false_eq_true, Bool.true_eq_false, reduceCtorEq, true_and, and_true, forall_const, implies_true]
    rw [cN4]
    refine ⟨rfl, by simp, fun h2 => ?_, fun h2 => ⟨rfl, lfig_ok ht ?_⟩⟩
    · have h2 : ¬ spots4.contains s = true := by simpa using h2
      rw [if_neg h2] at q
      exact q
    · have h2 : spots4.contains s = true := by simpa using h2
      rw [if_pos h2] at q
      sizeOf_list_dec
      refine ⟨rfl, lname_ok ht ?_⟩
      sizeOf_list_dec
      rw [cI4]
      refine ⟨⟨by decide, rfl, by show 2 ≤ 15; decide⟩, by simp, by simp, ?_⟩
      simp only [fine1, fine2, fine3, fineL]
      refine ⟨by simp, rfl, ?_⟩
      have hk : (if w = wSet then some (D.bl (numB t)) else if w = wZero then some (D.bl (nmB t)) else if w = wAdd then some (D.bl (spots4.contains t)) else if w = wTake then some (D.bl (spots4.contains t)) else Option.none).getD (.bl false) = .bl (if w = wSet then numB t else if w = wZero then nmB t else if w = wAdd ∨ w = wTake then spots4.contains t else false) := by
        by_cases h1 : w = wSet
        · rw [if_pos h1, if_pos h1]; rfl
        · rw [if_neg h1, if_neg h1]
          by_cases h2 : w = wZero
          · rw [if_pos h2, if_pos h2]; rfl
          · rw [if_neg h2, if_neg h2]
            by_cases h3 : w = wAdd
            · rw [if_pos h3, if_pos (.inl h3)]; rfl
            · rw [if_neg h3]
              by_cases h4 : w = wTake
              · rw [if_pos h4, if_pos (.inr h4)]; rfl
              · rw [if_neg h4, if_neg fun z => z.elim h3 h4]; rfl
      rw [hk]
      sizeOf_list_dec
      by_cases h1 : w = wSet
      · rw [if_pos h1] at q ⊢
        refine ⟨fun hf => ?_, fun hf => ⟨fun _ => ?_, fun z => absurd h1 z⟩⟩
        · rw [if_neg (by rw [hf]; decide)] at q
          exact q
        · rw [if_pos hf] at q
          have hd : digB t = true := by
            unfold numB at hf
            simp only [Bool.and_eq_true, decide_eq_true_eq] at hf
            exact digs_ok hf.1.1.2 hf.1.1.1.1 hf.1.1.1.2
          exact ⟨hd, by simp, by simp, q⟩
      · rw [if_neg h1] at q ⊢
        have h1' : ¬ w = [115, 101, 116] := h1
        simp only [h1', false_implies, true_implies, not_true_eq_false, not_false_eq_true, Bool.not_true, Bool.not_false, Bool.false_eq_true, Bool.true_eq_false, reduceCtorEq, true_and, and_true, forall_const, implies_true]
        by_cases h2 : w = wZero
        · have h3 : ¬ (w = wAdd ∨ w = wTake) := by rw [h2]; decide
          rw [if_pos h2]
          rw [if_neg h3, if_pos h2] at q
          refine ⟨fun hf => ?_, fun hf => ?_⟩
          · rw [if_neg (by rw [hf]; decide)] at q
            exact q
          · rw [if_pos hf] at q
            exact ⟨by simp, by simp, q⟩
        · rw [if_neg h2]
          by_cases h3 : w = wAdd ∨ w = wTake
          · rw [if_pos h3] at q ⊢
            refine ⟨fun hf => ?_, fun hf => ?_⟩
            · rw [if_neg (by rw [hf]; decide)] at q
              exact q
            · rw [if_pos hf] at q
              exact ⟨by simp, by simp, q⟩
          · rw [if_neg h3, if_neg h2] at q
            rw [if_neg h3]
            exact ⟨fun _ => q, fun z => by cases z⟩
theorem rtold_ok {ws : List Tx} (hn : ws ≠ []) (hl : ∀ x ∈ ws, x.length ≤ 1000000) {Φ : T → Od.Env → Prop} {Ψ : Exn → Od.Env → Prop} (q : Φ (.sh (toldD ws)) [none]) : satO (f__law_row_told [.sh (.lst (ws.map .str))]) Φ Ψ := by
  rcases ws with _ | ⟨w, _ | ⟨s, _ | ⟨t, _ | ⟨u, r⟩⟩⟩⟩
  · exact absurd rfl hn
  · exact rt1_ok (hl w (by simp)) q
  · exact rt2_ok (hl s (by simp)) q
  · exact rt3_ok (hl t (by simp)) q
  · exact rt4_ok q
/-! the law's own reading -/
def readP (t : Tx) : Except Nat Rg := readR (labs (spl 10 t)) (spl 10 t) ⟨[], [], []⟩ 0
def resD (t : Tx) : D := match readP t with
  | .ok st => .tup [.non, .lst (st.rows.map (progOf st))]
  | .error i => .tup [.int (i : Nat), .non]
def tD (r : Tx) : D := if r = [] then .tup [.str [110, 111, 110, 101], .str []] else toldD (spl 32 r)
theorem tD_lab {r n : Tx} (h : labOf (spl 32 r) = some n) : tD r = .tup [.str [108, 97, 98, 101, 108], .str n] := by
  unfold tD toldD
  rw [if_neg fun z => (by rw [z, labOf_nil] at h; cases h), h]
theorem tD_row {r : Tx} {b : SR} (hr : r ≠ []) (h : labOf (spl 32 r) = none) (e : rowOf (spl 32 r) = some b) : tD r = .tup [.str [114, 111, 119], b.d] := by
  unfold tD toldD
  rw [if_neg hr, h, e]
theorem tD_non {r : Tx} (hr : r ≠ []) (h : labOf (spl 32 r) = none) (e : rowOf (spl 32 r) = none) : tD r = .non := by
  unfold tD toldD
  rw [if_neg hr, h, e]
theorem takeR_none {known : List Tx} {st : Rg} {ws : List Tx} (h : labOf ws = none) (e : rowOf ws = none) : takeR known st ws = none := by
  unfold takeR; rw [h, e]
theorem takeR_l {known : List Tx} {st : Rg} {ws : List Tx} {n : Tx} (h : labOf ws = some n) : takeR known st ws = if n ∈ st.ns then none else some { st with ns := st.ns ++ [n], ps := st.ps ++ [st.rows.length] } := by
  unfold takeR; rw [h]
theorem takeR_r {known : List Tx} {st : Rg} {ws : List Tx} {b : SR} (h : labOf ws = none) (e : rowOf ws = some b) : takeR known st ws = if st.rows.length = 200 then none else match b.g with | some n => if n ∈ known then some { st with rows := st.rows ++ [b] } else none | none => some { st with rows := st.rows ++ [b] } := by
  unfold takeR; rw [h, e] <;> rfl
theorem enumA_get {ds : List D} {i : Nat} {x : D} (h : (enumD ds)[i]? = some x) : ∃ d, ds[i]? = some d ∧ x = .tup [.int (i : Nat), d] := by
  unfold enumD at h
  rw [List.getElem?_map, List.getElem?_zipIdx] at h
  cases e : ds[i]? with
  | none => rw [e] at h; cases h
  | some r =>
    rw [e] at h
    exact ⟨r, rfl, by simpa using (Option.some.inj h).symm⟩
theorem told_at {ts : List Tx} {i : Nat} {x : D} (h : (ts.map tD)[i]? = some x) : ∃ r, ts[i]? = some r ∧ r ∈ ts ∧ x = tD r := by
  rw [List.getElem?_map] at h
  obtain ⟨r, hr, rfl⟩ := Option.map_eq_some_iff.mp h
  exact ⟨r, hr, List.mem_of_getElem? hr, rfl⟩
theorem sr_facts {b : SR} (h : b.fine) : ∃ w, atI b.ds 0 = some (.str w) ∧ b.g.isSome = decide (w = wJump ∨ w = wZero) ∧ ∀ n, b.g = some n → atI b.ds (-1) = some (.str n) := by
  obtain ⟨_, w, qs, hps, hg, _⟩ := h
  refine ⟨w, by unfold SR.ds; rw [hps]; exact atI_k 0 rfl rfl, hg, fun n e => ?_⟩
  unfold SR.ds; rw [e]; exact atI_lst _ _
theorem lread_ok {t : Tx} (ht : Tok t) {Φ : T → Od.Env → Prop} {Ψ : Exn → Od.Env → Prop} (q : Φ (.sh (resD t)) [none]) : satO (f__law_read [.sh (.str t)]) Φ Ψ := by
  have hcnt := ht.cnt 10
  simp only [f__law_read, B__law_read]
  array_mem_dec
  generalize hA : sSet 1 _ = A
  refine ⟨rfl, seq_cut (fun ρ => ρ = [some (T.sh (.str t)), some (T.lst ((spl 10 t).map tD)), none, none, none, none, none, none, none]) ?_ ?_⟩
  · subst hA
    sizeOf_list_dec
    rw [splitL_eq]
    refine ⟨⟨by simp, Nat.le_trans ht.l (by decide)⟩, ?_⟩
    refine cmp_i (fun i acc ρ => acc = ((spl 10 t).take i).map tD ∧ ρ = [some (T.sh (.str t)), none, none, none, none, none, none, none, none]) (by rw [List.length_map]; omega) ⟨rfl, rfl⟩ ?_ ?_
    · rintro i x acc ρ hx _ ⟨rfl, rfl⟩
      obtain ⟨r, hr, hm, rfl⟩ := strs_at hx
      have hT := ht.row 10 hm
      sizeOf_list_dec
      rw [take_s hr, List.map_append]
      refine ⟨fun hne => ⟨rfl, ⟨by simp, Nat.le_trans hT.l (by decide)⟩, ?_⟩, fun he => ⟨by simp, ?_⟩⟩
      · rw [splitL_eq]
        refine rtold_ok (spl_ne 32 r) (fun w hw => Nat.le_trans (hT.row 32 hw).l (by decide)) ?_
        sizeOf_list_dec
        have : tD r = toldD (spl 32 r) := by unfold tD; rw [if_neg hne]
        rw [← this]; rfl
      · subst he
        rfl
    · rintro acc ρ _ ⟨rfl, rfl⟩
      rw [List.length_map, List.take_of_length_le (Nat.le_refl _)]
      sizeOf_list_dec
  rintro ρ rfl
  generalize hA : sSet 2 _ = A
  refine seq_cut (fun ρ => ρ = [some (T.sh (.str t)), some (T.sh (.lst ((spl 10 t).map tD))), some (T.lst ((labs (spl 10 t)).map .str)), none, none, none, none, none, none]) ?_ ?_
  · subst hA
    sizeOf_list_dec
    refine cmp_i (fun i acc ρ => acc = (labs ((spl 10 t).take i)).map .str ∧ ρ = [some (T.sh (.str t)), some (T.sh (.lst ((spl 10 t).map tD))), none, none, none, none, none, none, none]) (by rw [List.length_map]; omega) ⟨rfl, rfl⟩ ?_ ?_
    · rintro i x acc ρ hx _ ⟨rfl, rfl⟩
      obtain ⟨r, hr, hm, rfl⟩ := told_at hx
      rw [take_s hr, labs_app, labs1, List.map_append]
      cases e : labOf (spl 32 r) with
      | some n =>
        rw [tD_lab e]
        simp_wf
        rfl
      | none =>
        by_cases hne : r = []
        · subst hne
          have : tD [] = .tup [.str [110, 111, 110, 101], .str []] := rfl
          rw [this]
          simp_wf
          exact (List.append_nil _).symm
        · cases e2 : rowOf (spl 32 r) with
          | some b =>
            rw [tD_row hne e e2]
            simp_wf
            exact (List.append_nil _).symm
          | none =>
            rw [tD_non hne e e2]
            simp_wf
            exact (List.append_nil _).symm
    · rintro acc ρ _ ⟨rfl, rfl⟩
      rw [List.length_map, List.take_of_length_le (Nat.le_refl _)]
      sizeOf_list_dec
  rintro ρ rfl
  sizeOf_list_dec
  have hel : (enumD ((spl 10 t).map tD)).length = (spl 10 t).length := by simp [enumD]
  have hres : ∀ i, readP t = .error i → resD t = .tup [.int (i : Nat), .non] := fun i e => by unfold resD; rw [e]
  refine ⟨by simp, rfl, rfl, ?_⟩
  refine for_inv (fun i ρ => ∃ st, Rok (labs (spl 10 t)) (spl 10 t) i st ∧ ρ = [some (T.sh (.str t)), some (T.sh (.lst ((spl 10 t).map tD))), some (T.lst ((labs (spl 10 t)).map .str)), some (T.lst (st.rows.map SR.d)), some (T.dct (st.ns.map .inr) (natsD st.ps)), none, none, none, none]) ⟨⟨[], [], []⟩, ⟨rfl, by decide, fun _ h => (by cases h), rfl, Nat.le_refl _, fun _ h => (by cases h)⟩, rfl⟩ ?_ ?_
  · rintro i x ρ hx ⟨st, hR, rfl⟩
    have hi : i < (spl 10 t).length := by rw [← hel]; exact (List.getElem?_eq_some_iff.mp hx).1
    obtain ⟨d, hd, rfl⟩ := enumA_get hx
    obtain ⟨r, hr, hm, rfl⟩ := told_at hd
    cases e : labOf (spl 32 r) with
    | some n =>
      have hne : r ≠ [] := fun z => by rw [z, labOf_nil] at e; cases e
      rw [tD_lab e]
      have hk := takeR_l (known := labs (spl 10 t)) (st := st) e
      simp_wf
      rw [in_dct]
      have hnl : st.ns.length < 1000000 := by have := hR.c; omega
      refine ⟨fun h => ⟨by simp, ?_⟩, fun h => ⟨by rw [List.length_map]; exact hnl, ?_⟩⟩
      · have h : n ∈ st.ns := List.contains_iff_mem.mp h
        rw [if_pos h] at hk
        rw [hres i (hR.bad hr hne hk)] at q
        exact q
      · have h : n ∉ st.ns := fun z => by rw [List.contains_iff_mem.mpr z] at h; cases h
        rw [if_neg h] at hk
        refine ⟨_, hR.step hr hne hk, rfl, ?_⟩
        rw [put_new h, List.length_map]
        have e2 : natsD st.ps ++ [D.int (st.rows.length : Nat)] = natsD (st.ps ++ [st.rows.length]) := by unfold natsD; rw [List.map_append]; rfl
        show some (T.dct ((st.ns ++ [n]).map .inr) (natsD st.ps ++ [D.int (st.rows.length : Nat)])) = _
        rw [e2]
    | none =>
      by_cases hne : r = []
      · subst hne
        have : tD [] = .tup [.str [110, 111, 110, 101], .str []] := rfl
        rw [this]
        simp_wf
        exact ⟨st, hR.skip hr, rfl, rfl⟩
      · cases e2 : rowOf (spl 32 r) with
        | none =>
          rw [tD_non hne e e2]
          simp_wf
          rw [hres i (hR.bad hr hne (takeR_none e e2))] at q
          exact ⟨by simp, q⟩
        | some b =>
          rw [tD_row hne e e2]
          have hk := takeR_r (known := labs (spl 10 t)) (st := st) e e2
          obtain ⟨w, a0, hg, a1⟩ := sr_facts (rowOf_fine e2)
          have hbd : b.d = .tup b.ds := rfl
          rw [hbd]
          simp_wf
          rw [List.length_map]
          have hrm := hR.m
          have happ : st.rows.map SR.d ++ [D.tup b.ds] = (st.rows ++ [b]).map SR.d := by rw [List.map_append]; rfl
          refine ⟨fun h => ⟨by simp, ?_⟩, fun h => ?_⟩
          · rw [if_pos (by omega)] at hk
            rw [hres i (hR.bad hr hne hk)] at q
            exact q
          · rw [if_neg (by omega)] at hk
            rw [a0, ex_some, cInR]
            refine ⟨by simp, fun hw => ?_, fun hw => ⟨by omega, ?_⟩⟩
            · rw [hw] at hg
              obtain ⟨n, eg⟩ := Option.isSome_iff_exists.mp hg
              rw [a1 n eg, ex_some, notin_strs]
              rw [eg] at hk
              simp only [] at hk
              refine ⟨fun hn => ⟨by simp, ?_⟩, fun hn => ⟨by omega, ?_⟩⟩
              · have hn : n ∉ labs (spl 10 t) := by simpa using hn
                rw [if_neg hn] at hk
                rw [hres i (hR.bad hr hne hk)] at q
                exact q
              · have hn : n ∈ labs (spl 10 t) := by simpa using hn
                rw [if_pos hn] at hk
                exact ⟨_, hR.step hr hne hk, by rw [happ], rfl⟩
            · rw [hw] at hg
              have eg : b.g = Option.none := by cases e : b.g with
                | none => rfl
                | some n => rw [e] at hg; cases hg
              rw [eg] at hk
              exact ⟨_, hR.step hr hne hk, by rw [happ], rfl⟩
  · rintro ρ ⟨st, hR, rfl⟩
    rw [hel] at hR
    have hok : readP t = .ok st := hR.done
    have hgo : ∀ b ∈ st.rows, b.fine ∧ ∀ n, b.g = some n → n ∈ st.ns := fun b hb => ⟨(hR.f b hb).1, fun n e => hR.a n (by rw [List.take_of_length_le (Nat.le_refl _)]; exact (hR.f b hb).2 n e)⟩
    have hrm := hR.m
    sizeOf_list_dec
    refine ⟨by simp, ?_⟩
    refine for_inv (fun i ρ => ρ = [some (T.sh (.str t)), some (T.sh (.lst ((spl 10 t).map tD))), some (T.lst ((labs (spl 10 t)).map .str)), some (T.sh (.lst (st.rows.map SR.d))), some (T.dct (st.ns.map .inr) (natsD st.ps)), none, none, some (T.lst ((st.rows.take i).map (progOf st))), none]) rfl ?_ ?_
    · rintro i x ρ hx rfl
      obtain ⟨b, hb, hbm, rfl⟩ := progs_at hx
      obtain ⟨hfin, hgn⟩ := hgo b hbm
      obtain ⟨h3, w, qs, hps, hg, hsc⟩ := hfin
      have hd : b.d = .tup b.ds := rfl
      have e0 : atI b.ds 0 = some (.str w) := by unfold SR.ds; rw [hps]; exact atI_k 0 rfl rfl
      have hs : (st.rows.take (i + 1)).map (progOf st) = (st.rows.take i).map (progOf st) ++ [progOf st b] := by rw [take_s hb, List.map_append]; rfl
      have hil := (List.getElem?_eq_some_iff.mp hb).1
      have htl : ((st.rows.take i).map (progOf st)).length < 1000000 := by rw [List.length_map, List.length_take]; omega
      rw [hd]
      sizeOf_list_dec
      rw [e0, ex_some, cInR, hs]
      refine ⟨by simp, fun hw => ?_, fun hw => ⟨htl, ?_⟩⟩
      · rw [hw] at hg
        obtain ⟨n, eg⟩ := Option.isSome_iff_exists.mp hg
        have ed : b.ds = b.ps ++ [.str n] := by unfold SR.ds; rw [eg]
        rw [ed, atI_lst, cut_lst, ex_some]
        refine look_in hR.l (hgn n eg) ⟨by simp, by simp; omega, htl, ?_⟩
        have ep : progOf st b = .tup (b.ps ++ [.int (lookR st n : Nat)]) := by unfold progOf; rw [eg]
        rw [ep]; rfl
      · rw [hw] at hg
        have eg : b.g = Option.none := by cases e : b.g with
          | none => rfl
          | some n => rw [e] at hg; cases hg
        have ep : progOf st b = .tup b.ds := by unfold progOf SR.ds; rw [eg]; simp
        rw [ep]
    · rintro ρ rfl
      rw [List.length_map, List.take_of_length_le (Nat.le_refl _)]
      sizeOf_list_dec
      have er : resD t = .tup [.non, .lst (st.rows.map (progOf st))] := by unfold resD; rw [hok]
      rw [er] at q
      exact ⟨by simp, q⟩
theorem lref_ok {t : Tx} (ht : Tok t) {Φ : T → Od.Env → Prop} {Ψ : Exn → Od.Env → Prop} (q : Φ (.sh (resD t)) [none]) : satO (f__law_refused [.sh (.str t)]) Φ Ψ := by
  have hin : [66, 97, 100, 82, 111, 119] ∈ rs_ := by decide
  simp only [f__law_refused, B__law_refused]
  sizeOf_list_dec
  refine ⟨rfl, rfl, rp_ok ht (fun st e => ?_) fun i e => ?_⟩
  · sizeOf_list_dec
    have er : resD t = .tup [.non, .lst (st.rows.map (progOf st))] := by
      have : readP t = .ok st := e
      unfold resD; rw [this]
    rw [er] at q
    exact ⟨by simp, q⟩
  · sizeOf_list_dec
    have er : resD t = .tup [.int (i : Nat), .non] := by
      have : readP t = .error i := e
      unfold resD; rw [this]
    rw [er] at q
    have b0 : subE [66, 97, 100, 82, 111, 119] [79, 100, 100, 69, 114, 114, 111, 114] = true := by decide
    have b1 : ([[66, 97, 100, 82, 111, 119]].any (subE [66, 97, 100, 82, 111, 119])) = true := by decide
    have b2 : ([[86, 97, 108, 117, 101, 69, 114, 114, 111, 114]].any (subE [66, 97, 100, 82, 111, 119])) = true := by decide
    have b3 : ([[78, 111, 78, 97, 109, 101]].any (subE [66, 97, 100, 82, 111, 119])) = false := by decide
    have b4 : ([[66, 97, 100, 84, 101, 120, 116]].any (subE [66, 97, 100, 82, 111, 119])) = false := by decide
    have b5 : ([[78, 111, 70, 111, 114, 109]].any (subE [66, 97, 100, 82, 111, 119])) = false := by decide
    have b6 : ([[84, 111, 111, 70, 97, 114]].any (subE [66, 97, 100, 82, 111, 119])) = false := by decide
    have b7 : ([[78, 111, 84, 97, 114, 103, 101, 116]].any (subE [66, 97, 100, 82, 111, 119])) = false := by decide
    have b8 : ([[84, 111, 111, 70, 117, 108, 108]].any (subE [66, 97, 100, 82, 111, 119])) = false := by decide
    have b9 : ([[78, 111, 80, 108, 97, 99, 101]].any (subE [66, 97, 100, 82, 111, 119])) = false := by decide
    rw [b0, b1, b2, b3, b4, b5, b6, b7, b8, b9]
    have hany : fAny [D.lst ([D.bl false, D.bl false, D.bl false] ++ [D.bl false, D.bl false, D.bl false])] = some (.bl false) := by rfl
    rw [hany]
    simp_wf
    exact ⟨hin, hin, hin, hin, hin, hin, by simp, hin, hin, hin, by simp, by simp, hin, hin, by simp, q⟩
/-! how long a text's rows are -/
def Rw (R : Nat) (t : Tx) : Prop := ∀ p ∈ spl 10 t, p.length ≤ R
theorem spl_inf (c : Nat) : ∀ (t : Tx) (p : Tx), p ∈ spl c t → ∃ a b, t = a ++ p ++ b
  | [], p, h => by
    have : p = [] := by simpa [spl] using h
    exact ⟨[], [], by rw [this]; rfl⟩
  | x :: r, p, h => by
    have ih := spl_inf c r
    unfold spl at h
    split at h
    · rcases List.mem_cons.mp h with rfl | h
      · exact ⟨[], x :: r, rfl⟩
      · obtain ⟨a, b, e⟩ := ih p h
        exact ⟨x :: a, b, by rw [e]; rfl⟩
    · split at h
      · rename_i e; exact absurd e (spl_ne c r)
      · rename_i y t e
        rcases List.mem_cons.mp h with rfl | h
        · have hj := join_spl r c
          rw [e] at hj
          by_cases ht : t = []
          · subst ht
            exact ⟨[], [], by rw [← hj, List.append_nil]; rfl⟩
          · exact ⟨[], c :: joinT [c] t, by rw [← hj, joinT_cons c y ht]; rfl⟩
        · obtain ⟨a, b, e2⟩ := ih p (by rw [e]; exact List.mem_cons_of_mem _ h)
          exact ⟨x :: a, b, by rw [e2]; rfl⟩
theorem spl_pre (c : Nat) : ∀ (b r : Tx), c ∉ b → ∃ h tl, spl c (b ++ r) = (b ++ h) :: tl
  | [], r, _ => by
    cases e : spl c r with
    | nil => exact absurd e (spl_ne c r)
    | cons h tl => exact ⟨h, tl, e⟩
  | x :: b, r, hb => by
    obtain ⟨h, tl, e⟩ := spl_pre c b r fun z => hb (List.mem_cons_of_mem _ z)
    refine ⟨h, tl, ?_⟩
    rw [List.cons_append, spl, if_neg fun z => hb (by rw [z]; simp), e]; rfl
theorem inf_row (c : Nat) : ∀ (a b r : Tx), c ∉ b → ∃ p ∈ spl c (a ++ b ++ r), b.length ≤ p.length
  | [], b, r, hb => by
    obtain ⟨h, tl, e⟩ := spl_pre c b r hb
    exact ⟨b ++ h, by rw [List.nil_append, e]; simp, by simp⟩
  | x :: a, b, r, hb => by
    obtain ⟨p, hp, hl⟩ := inf_row c a b r hb
    have e0 : x :: a ++ b ++ r = x :: (a ++ b ++ r) := rfl
    rw [e0, spl]
    split
    · exact ⟨p, List.mem_cons_of_mem _ hp, hl⟩
    · cases e : spl c (a ++ b ++ r) with
      | nil => exact absurd e (spl_ne c _)
      | cons h tl =>
        rw [e] at hp
        rcases List.mem_cons.mp hp with rfl | hp
        · exact ⟨x :: p, by simp, by simp; omega⟩
        · exact ⟨p, by simp [hp], hl⟩
theorem Rw.inf {R : Nat} {t a b r : Tx} (h : Rw R t) (e : t = a ++ b ++ r) (hb : 10 ∉ b) : b.length ≤ R := by
  obtain ⟨p, hp, hl⟩ := inf_row 10 a b r hb
  rw [← e] at hp
  have := h p hp
  omega
theorem Rw.of {R : Nat} {t : Tx} (h : ∀ a b r, t = a ++ b ++ r → 10 ∉ b → b.length ≤ R) : Rw R t := fun p hp => by
  obtain ⟨a, b, e⟩ := spl_inf 10 t p hp
  exact h a p b e (spl_free 10 t p hp)
theorem Rw.sub {R : Nat} {t x a b : Tx} (h : Rw R t) (e : t = a ++ x ++ b) : Rw R x := Rw.of fun a' b' r' e' hb => by
  refine h.inf (a := a ++ a') (r := r' ++ b) ?_ hb
  rw [e, e']; simp
theorem Rw.take {R : Nat} {t : Tx} (h : Rw R t) (k : Nat) : Rw R (t.take k) := h.sub (a := []) (b := t.drop k) (by simp)
theorem Rw.drop {R : Nat} {t : Tx} (h : Rw R t) (k : Nat) : Rw R (t.drop k) := h.sub (a := t.take k) (b := []) (by simp)
theorem Rw.mono {R S : Nat} {t : Tx} (h : Rw R t) (hS : R ≤ S) : Rw S t := fun p hp => Nat.le_trans (h p hp) hS
theorem Rw.len {t : Tx} : Rw t.length t := spl_plen 10 t
theorem Rw.app {R S : Nat} {x y : Tx} (h : Rw R x) (g : Rw S y) : Rw (R + S) (x ++ y) := Rw.of fun a b r e hb => by
  rw [List.append_assoc] at e
  rcases List.append_eq_append_iff.mp e with ⟨c, e1, e2⟩ | ⟨c, e1, e2⟩
  · -- a = x ++ c: the row lies in y
    have := g.inf (a := c) (b := b) (r := r) (by rw [e2, List.append_assoc]) hb
    omega
  · -- x = a ++ c, c ++ y = b ++ r
    rcases List.append_eq_append_iff.mp e2 with ⟨d, e3, e4⟩ | ⟨d, e3, e4⟩
    · have h1 := h.inf (a := a) (b := b) (r := d) (by rw [e1, e3]; simp) hb
      omega
    · have h1 := h.inf (a := a) (b := c) (r := []) (by rw [e1]; simp) fun z => hb (by rw [e3]; exact List.mem_append_left _ z)
      have h2 := g.inf (a := []) (b := d) (r := r) (by rw [e4]; simp) fun z => hb (by rw [e3]; exact List.mem_append_right _ z)
      rw [e3, List.length_append]; omega
theorem Rw.join {R : Nat} {ts : List Tx} (hf : ∀ p ∈ ts, 10 ∉ p) (h : ∀ p ∈ ts, p.length ≤ R) : Rw R (joinT [10] ts) := by
  by_cases hn : ts = []
  · subst hn
    intro p hp
    have : p = [] := by simpa [joinT, spl] using hp
    rw [this]; exact Nat.zero_le _
  · intro p hp
    rw [spl_join 10 ts hn hf] at hp
    exact h p hp
/-- a text of signs below 128, its length and its rows' length -/
structure Lq (L R : Nat) (t : Tx) : Prop where
  a : asc t
  l : t.length ≤ L
  r : Rw R t
theorem Lq.app {L R M S : Nat} {x y : Tx} (h : Lq L R x) (g : Lq M S y) : Lq (L + M) (R + S) (x ++ y) := ⟨fun c hc => by
  rcases List.mem_append.mp hc with hc | hc
  · exact h.a c hc
  · exact g.a c hc, by rw [List.length_append]; have := h.l; have := g.l; omega, h.r.app g.r⟩
theorem Lq.take {L R : Nat} {t : Tx} (h : Lq L R t) (k : Nat) : Lq L R (t.take k) := ⟨fun c hc => h.a c (List.mem_of_mem_take hc), by rw [List.length_take]; have := h.l; omega, h.r.take k⟩
theorem Lq.drop {L R : Nat} {t : Tx} (h : Lq L R t) (k : Nat) : Lq L R (t.drop k) := ⟨fun c hc => h.a c (List.mem_of_mem_drop hc), by rw [List.length_drop]; have := h.l; omega, h.r.drop k⟩
theorem Lq.mono {L R M S : Nat} {t : Tx} (h : Lq L R t) (hM : L ≤ M) (hS : R ≤ S) : Lq M S t := ⟨h.a, Nat.le_trans h.l hM, h.r.mono hS⟩
theorem Lq.short {t : Tx} {k : Nat} (h : asc t) (hl : t.length ≤ k) : Lq k k t := ⟨h, hl, Rw.len.mono hl⟩
theorem Lq.tok {L R : Nat} {t : Tx} (h : Lq L R t) (hL : L ≤ 900000) : Tok t := ⟨h.a, Nat.le_trans h.l hL⟩
/-! what writers of sheets share -/
theorem shT_str (x : Tx) : shT (.str x) = x := by
  show (sT x).cps.toList = x
  exact sT_cps x
theorem okS_str {x : Tx} (h : asc x) (hl : x.length ≤ 100000) : okS (.str x) = true := by
  unfold okS
  rw [ok_str h (by decide)]
  simp only [Bool.true_and, Bool.and_eq_true, decide_eq_true_eq]
  exact ⟨Nat.zero_le _, by unfold D.shW; omega⟩
theorem okS_nat {n : Nat} (h : n ≤ 1000000) : okS (.int (n : Nat)) = true := by
  unfold okS
  simp only [Bool.and_eq_true, decide_eq_true_eq]
  exact ⟨⟨rfl, Nat.zero_le _⟩, by unfold D.shW; rw [if_pos (by omega)]; decide⟩
/-- a row's parts, with its label -/
def PRow.wd (lab : Nat → Tx) : PRow → List D
  | .set s n => [.str wSet, .str [s], .int n]
  | .two w s t => [.str (wTwo w), .str [s], .str [t]]
  | .one w s => [.str (wOne w), .str [s]]
  | .stop => [.str wStop]
  | .jump a => [.str wJump, .str (lab a)]
  | .zero s a => [.str wZero, .str [s], .str (lab a)]
theorem wd_t (lab : Nat → Tx) (r : PRow) : (r.wd lab).map shT = r.ws lab := by
  cases r <;> simp only [PRow.wd, PRow.ws, List.map_cons, List.map_nil, shT_str] <;> rfl
theorem asc_of {w : Tx} (h : ∀ c ∈ w, 33 ≤ c ∧ c ≤ 122) : asc w := fun c hc => by have := h c hc; omega
theorem wd_ok {lab : Nat → Tx} {r : PRow} {m : Nat} (h : r.ok m) (hl : ∀ a, r.goal = some a → nmB (lab a) = true) : ∀ d ∈ r.wd lab, okS d = true := by
  have hw := ws_mem h hl
  have k : ∀ d ∈ r.wd lab, (∃ w ∈ r.ws lab, d = .str w) ∨ ∃ n : Nat, n ≤ 255 ∧ d = .int (n : Nat) := by
    intro d hd
    cases r with
    | set s n =>
      simp only [PRow.wd, List.mem_cons, List.not_mem_nil, or_false] at hd
      rcases hd with rfl | rfl | rfl
      · exact .inl ⟨_, by simp [PRow.ws], rfl⟩
      · exact .inl ⟨_, by simp [PRow.ws], rfl⟩
      · exact .inr ⟨n, h.2, rfl⟩
    | two t s u =>
      simp only [PRow.wd, List.mem_cons, List.not_mem_nil, or_false] at hd
      rcases hd with rfl | rfl | rfl <;> exact .inl ⟨_, by simp [PRow.ws], rfl⟩
    | one t s =>
      simp only [PRow.wd, List.mem_cons, List.not_mem_nil, or_false] at hd
      rcases hd with rfl | rfl <;> exact .inl ⟨_, by simp [PRow.ws], rfl⟩
    | stop =>
      simp only [PRow.wd, List.mem_cons, List.not_mem_nil, or_false] at hd
      rw [hd]; exact .inl ⟨_, by simp [PRow.ws], rfl⟩
    | jump a =>
      simp only [PRow.wd, List.mem_cons, List.not_mem_nil, or_false] at hd
      rcases hd with rfl | rfl <;> exact .inl ⟨_, by simp [PRow.ws], rfl⟩
    | zero s a =>
      simp only [PRow.wd, List.mem_cons, List.not_mem_nil, or_false] at hd
      rcases hd with rfl | rfl | rfl <;> exact .inl ⟨_, by simp [PRow.ws], rfl⟩
  intro d hd
  rcases k d hd with ⟨w, hm, rfl⟩ | ⟨n, hn, rfl⟩
  · exact okS_str (asc_of (hw w hm).1) (by have := (hw w hm).2; omega)
  · exact okS_nat (by omega)
theorem allStrs_map : ∀ ts : List Tx, allStrs (ts.map .str) = some ts
  | [] => rfl
  | t :: ts => by show (allStrs (ts.map .str)).map (t :: ·) = _; rw [allStrs_map ts]; rfl
theorem sum_le {k : Nat} : ∀ ts : List Tx, (∀ t ∈ ts, t.length ≤ k) → (ts.map List.length).sum ≤ ts.length * k
  | [], _ => Nat.zero_le _
  | t :: ts, h => by
    have := sum_le ts fun u hu => h u (List.mem_cons_of_mem _ hu)
    have := h t (by simp)
    rw [List.map_cons, List.sum_cons, List.length_cons, Nat.succ_mul]; omega
theorem join_b {c : Nat} {ts : List Tx} {k : Nat} (h : ∀ t ∈ ts, t.length ≤ k) (hl : ts.length * (k + 1) ≤ 1000000) : (ts.map List.length).sum + ts.length * ([c] : Tx).length ≤ 1000000 := by
  have := sum_le ts h
  rw [Nat.mul_succ] at hl
  simp only [List.length_singleton, Nat.mul_one]
  omega
theorem wd_l (lab : Nat → Tx) (r : PRow) : (r.wd lab).length ≤ 3 := by cases r <;> simp [PRow.wd]
theorem rowsI_app : ∀ a b : List Itm, rowsI (a ++ b) = rowsI a ++ rowsI b
  | [], _ => rfl
  | .emp :: a, b => rowsI_app a b
  | .lab _ :: a, b => rowsI_app a b
  | .row r :: a, b => by
    show r :: rowsI (a ++ b) = _
    rw [rowsI_app a b]; rfl
theorem plI_app : ∀ (a b : List Itm) (k : Nat), plI (a ++ b) k = plI a k ++ plI b (k + (rowsI a).length)
  | [], _, _ => rfl
  | .emp :: a, b, k => plI_app a b k
  | .lab n :: a, b, k => by
    show (n, k) :: plI (a ++ b) k = _
    rw [plI_app a b k]; rfl
  | .row r :: a, b, k => by
    show plI (a ++ b) (k + 1) = plI a (k + 1) ++ plI b (k + ((rowsI a).length + 1))
    rw [plI_app a b (k + 1)]
    congr 2; omega
theorem prow_at {rs : List PRow} {i : Nat} {x : D} (h : (rs.map PRow.d)[i]? = some x) : ∃ r, rs[i]? = some r ∧ r ∈ rs ∧ x = r.d := by
  rw [List.getElem?_map] at h
  obtain ⟨b, hb, rfl⟩ := Option.map_eq_some_iff.mp h
  exact ⟨b, hb, List.mem_of_getElem? hb, rfl⟩
theorem prd (r : PRow) (lab : Nat → Tx) : ∃ w qs, r.d = .tup (.str w :: qs) ∧ r.goal.isSome = decide (w = wJump ∨ w = wZero) ∧ (∀ a, r.goal = some a → ∃ ps, D.str w :: qs = ps ++ [.int (a : Nat)] ∧ r.wd lab = ps ++ [.str (lab a)]) ∧ (r.goal = Option.none → r.wd lab = .str w :: qs) ∧ qs.length ≤ 2 := by
  cases r with
  | set s n => exact ⟨_, _, rfl, by show false = decide _; decide, fun a h => (by cases h), fun _ => rfl, by show 2 ≤ 2; decide⟩
  | two w s t => exact ⟨_, _, rfl, by cases w <;> (show false = decide _; decide), fun a h => (by cases h), fun _ => rfl, by show 2 ≤ 2; decide⟩
  | one w s => exact ⟨_, _, rfl, by cases w <;> (show false = decide _; decide), fun a h => (by cases h), fun _ => rfl, by show 1 ≤ 2; decide⟩
  | stop => exact ⟨_, _, rfl, by decide, fun a h => (by cases h), fun _ => rfl, by decide⟩
  | jump a => exact ⟨_, _, rfl, by show true = decide _; decide, fun b h => by cases h; exact ⟨[.str wJump], rfl, rfl⟩, fun h => (by cases h), by show 1 ≤ 2; decide⟩
  | zero s a => exact ⟨_, _, rfl, by show true = decide _; decide, fun b h => by cases h; exact ⟨[.str wZero, .str [s]], rfl, rfl⟩, fun h => (by cases h), by show 2 ≤ 2; decide⟩
theorem natsD_app (xs : List Nat) (a : Nat) : natsD (xs ++ [a]) = natsD xs ++ [.int (a : Nat)] := by unfold natsD; rw [List.map_append]; rfl
theorem Bx.mono {n m : Nat} {fs : List (Tx × T1)} (h : Bx n fs) (hm : m ≤ n) : Bx m fs := by
  obtain ⟨cs, t, e, h1, h2, h3⟩ := h
  exact ⟨cs, t, e, h1, h2, by omega⟩
theorem cut63 {α : Type} (xs : List α) : cutD xs none (some 63) = xs.take 63 := by
  unfold cutD
  rw [show HT.sIx xs.length 0 none = 0 from rfl, List.drop_zero, Nat.sub_zero]
  simp only [HT.sIx]
  rw [if_neg (by decide)]
  rcases Nat.le_total xs.length 63 with h | h
  · rw [List.take_of_length_le (by omega), List.take_of_length_le h]
  · congr 1; omega
theorem begin_ok {ns : List Int} {Φ : T → Od.Env → Prop} {Ψ : Exn → Od.Env → Prop} (hl : ns.length ≤ 63) (q : ∀ fs, Bx 900000000 fs → Φ (.rcd fs) [none]) : satO (f__law_begin [T.sh (.rol (ns.map .int))]) Φ Ψ := by
  simp only [f__law_begin, B__law_begin]
  sizeOf_list_dec
  rw [cut63, ← List.map_take]
  refine ⟨rfl, by decide, fEq_nil (dOk_lst (k := 0) (fun _ _ => rfl) (fun _ _ => Nat.zero_le _) (by decide)) ⟨fun h => ⟨by decide, by decide, ?_⟩, fun h => ⟨by decide, ?_⟩⟩⟩
  · exact q _ ⟨[11], 0, rfl, by simp, by omega, by omega⟩
  · refine q _ ⟨ns.take 63, 0, rfl, fun z => ?_, by omega, by omega⟩
    rw [z] at h
    cases h
theorem lmany_ok {n : Nat} {fs : Fs} {Φ : T → Od.Env → Prop} {Ψ : Exn → Od.Env → Prop} (hb : Bx n fs) (hn : 2 ≤ n) (q : ∀ (r : Nat) fs', r ≤ 40 → Bx (n - 2) fs' → Φ (.sh (.int (r : Nat))) [some (.rcd fs')]) : satO (f__law_many [T.rcd fs]) Φ Ψ := by
  simp only [f__law_many, B__law_many]
  sizeOf_list_dec
  refine ⟨rfl, rfl, take_ok hb (by omega) (by omega) (by omega) fun w fs1 w0 w1 hb1 => ?_⟩
  sizeOf_list_dec
  refine ⟨fun _ => ⟨rfl, take_ok hb1 (by omega) (by omega) (by omega) fun v fs2 v0 v1 hb2 => ?_⟩, fun _ => ⟨rfl, take_ok hb1 (by omega) (by omega) (by omega) fun v fs2 v0 v1 hb2 => ?_⟩⟩
  · obtain ⟨v, rfl⟩ := Int.eq_ofNat_of_zero_le v0
    sizeOf_list_dec
    rw [show (13 : Int) + (v : Int) = ((13 + v : Nat) : Int) by omega]
    exact q _ _ (by omega) (hb2.mono (by omega))
  · obtain ⟨v, rfl⟩ := Int.eq_ofNat_of_zero_le v0
    sizeOf_list_dec
    exact q _ _ (by omega) (hb2.mono (by omega))
/-! the law's drawn programs -/
theorem abcd_i {i : Int} (h0 : 0 ≤ i) (h1 : i < 4) {Φ : Nat → Prop} (q : ∀ c, spB c → Φ c) : ex (atI [97, 98, 99, 100] i) Φ := by
  refine atI_ok h0 (by simpa using h1) fun c hc => q c ?_
  have := List.mem_of_getElem? hc
  simp only [List.mem_cons, List.not_mem_nil, or_false] at this
  unfold spB
  omega
theorem two_at {a b : D} {i : Int} (h0 : 0 ≤ i) (h1 : i < 2) {Φ : D → Prop} (qa : Φ a) (qb : Φ b) : ex (atI [a, b] i) Φ := by
  refine atI_ok h0 (by simpa using h1) fun c hc => ?_
  have := List.mem_of_getElem? hc
  simp only [List.mem_cons, List.not_mem_nil, or_false] at this
  rcases this with rfl | rfl
  · exact qa
  · exact qb
theorem lprog_ok {n m : Nat} {fs : Fs} {Φ : T → Od.Env → Prop} {Ψ : Exn → Od.Env → Prop} (hb : Bx n fs) (hn : 10 * m ≤ n) (hm : m ≤ 1000) (q : ∀ (rs : List PRow) fs', rs.length = m → (∀ r ∈ rs, r.ok m) → Bx (n - 10 * m) fs' → Φ (.lst (rs.map PRow.d)) [some (.rcd fs'), none]) : satO (f__law_program [T.rcd fs, .sh (.int (m : Nat))]) Φ Ψ := by
  simp only [f__law_program, B__law_program]
  sizeOf_list_dec
  obtain ⟨xs, hxs⟩ : ∃ xs, xs = rngD 0 (m : Int).toNat := ⟨_, rfl⟩
  have hxl : xs.length = m := by rw [hxs, rngD_len]; omega
  rw [← hxs]
  refine ⟨rfl, by decide, okI_of (by omega) (by omega), ?_⟩
  refine for_inv (fun i ρ => ∃ (fs : Fs) (rs : List PRow), ρ = [some (T.rcd fs), some (T.sh (.int (m : Nat))), some (T.lst (rs.map PRow.d)), none, none, none, none, none] ∧ rs.length = i ∧ (∀ r ∈ rs, r.ok m) ∧ Bx (n - 10 * i) fs) ⟨fs, [], rfl, rfl, fun _ h => (by cases h), by simpa using hb⟩ ?_ ?_
  · rintro i x ρ hx ⟨fs, rs, rfl, hl, hr, hb⟩
    have hp : i < m := by rw [← hxl]; exact (List.getElem?_eq_some_iff.mp hx).1
    have hxi : x = .int (i : Nat) := by rw [hxs] at hx; rw [rngD_get hx, Int.zero_add]
    subst hxi
    have app : ∀ r : PRow, rs.map PRow.d ++ [r.d] = (rs ++ [r]).map PRow.d := fun r => by rw [List.map_append]; rfl
    have allok : ∀ r : PRow, r.ok m → ∀ r' ∈ rs ++ [r], r'.ok m := fun r h r' h' => by
      rcases List.mem_append.mp h' with h' | h'
      · exact hr r' h'
      · rw [List.mem_singleton.mp h']; exact h
    array_mem_dec
    refine seq_cut (fun ρ => ∃ (w : Int) (fs : Fs), 0 ≤ w ∧ w < 12 ∧ Bx (n - 10 * i - 1) fs ∧ ρ = [some (T.rcd fs), some (T.sh (.int (m : Nat))), some (T.lst (rs.map PRow.d)), some (T.sh (.int (i : Nat))), some (T.sh (.int w)), none, none, none]) ?_ ?_
    · sizeOf_list_dec
      refine ⟨rfl, take_ok hb (by omega) (by omega) (by omega) fun w fs w0 w1 hb => ?_⟩
      sizeOf_list_dec
      exact ⟨w, fs, w0, w1, hb.mono (by omega), rfl⟩
    rintro ρ ⟨w, fs, w0, w1, hb, rfl⟩
    refine seq_cut (fun ρ => ∃ (s : Nat) (fs : Fs), spB s ∧ Bx (n - 10 * i - 2) fs ∧ ρ = [some (T.rcd fs), some (T.sh (.int (m : Nat))), some (T.lst (rs.map PRow.d)), some (T.sh (.int (i : Nat))), some (T.sh (.int w)), some (T.sh (.str [s])), none, none]) ?_ ?_
    · sizeOf_list_dec
      refine ⟨rfl, take_ok hb (by omega) (by omega) (by omega) fun v fs v0 v1 hb => ?_⟩
      sizeOf_list_dec
      refine ⟨by decide, abcd_i v0 v1 fun s hs => ?_⟩
      exact ⟨s, fs, hs, hb.mono (by omega), rfl⟩
    rintro ρ ⟨s, fs, hs, hb, rfl⟩
    refine seq_cut (fun ρ => ∃ (t : Nat) (fs : Fs), spB t ∧ Bx (n - 10 * i - 3) fs ∧ ρ = [some (T.rcd fs), some (T.sh (.int (m : Nat))), some (T.lst (rs.map PRow.d)), some (T.sh (.int (i : Nat))), some (T.sh (.int w)), some (T.sh (.str [s])), some (T.sh (.str [t])), none]) ?_ ?_
    · sizeOf_list_dec
      refine ⟨rfl, take_ok hb (by omega) (by omega) (by omega) fun v fs v0 v1 hb => ?_⟩
      sizeOf_list_dec
      refine ⟨by decide, abcd_i v0 v1 fun s hs => ?_⟩
      exact ⟨s, fs, hs, hb.mono (by omega), rfl⟩
    rintro ρ ⟨t, fs, ht, hb, rfl⟩
    refine seq_cut (fun ρ => ∃ (a : Nat) (fs : Fs), a ≤ m ∧ Bx (n - 10 * i - 6) fs ∧ ρ = [some (T.rcd fs), some (T.sh (.int (m : Nat))), some (T.lst (rs.map PRow.d)), some (T.sh (.int (i : Nat))), some (T.sh (.int w)), some (T.sh (.str [s])), some (T.sh (.str [t])), some (T.sh (.int (a : Nat)))]) ?_ ?_
    · sizeOf_list_dec
      refine ⟨rfl, take_ok hb (by omega) (by omega) (by omega) fun v fs v0 v1 hb => ?_⟩
      sizeOf_list_dec
      obtain ⟨v, rfl⟩ := Int.eq_ofNat_of_zero_le v0
      refine ⟨rfl, take_ok hb (by omega) (by omega) (by omega) fun u fs u0 u1 hb => ?_⟩
      sizeOf_list_dec
      refine ⟨by simp, rfl, take_ok hb (by omega) (by omega) (by omega) fun z fs z0 z1 hb => ?_⟩
      sizeOf_list_dec
      obtain ⟨u, rfl⟩ := Int.eq_ofNat_of_zero_le u0
      refine two_at z0 z1 ⟨v, fs, by omega, hb.mono (by omega), rfl⟩ ?_
      have e : min (m : Int) (max 0 ((i : Int) - 3 + (u : Int))) = ((min m (i + u - 3) : Nat) : Int) := by omega
      rw [e]
      exact ⟨min m (i + u - 3), fs, Nat.min_le_left _ _, hb.mono (by omega), rfl⟩
    rintro ρ ⟨a, fs, ha, hb, rfl⟩
    have fin : ∀ (r : PRow) (fs : Fs), r.ok m → Bx (n - 10 * (i + 1)) fs → ∃ (fs_1 : Fs) (rs_1 : List PRow), [some (T.rcd fs), some (T.sh (D.int (m : Nat))), some (T.lst (rs.map PRow.d ++ [r.d])), none, none, none, none, none] = [some (T.rcd fs_1), some (T.sh (D.int (m : Nat))), some (T.lst (rs_1.map PRow.d)), none, none, none, none, none] ∧ rs_1.length = i + 1 ∧ (∀ r ∈ rs_1, r.ok m) ∧ Bx (n - 10 * (i + 1)) fs_1 := fun r fs h1 h2 => ⟨fs, rs ++ [r], by rw [app], by rw [List.length_append, hl]; rfl, allok r h1, h2⟩
    have hrl : (rs.map PRow.d).length < 1000000 := by rw [List.length_map]; omega
    sizeOf_list_dec
    refine ⟨fun h3 => ⟨rfl, take_ok hb (by omega) (by omega) (by omega) fun v fs v0 v1 hb => ?_⟩, fun h3 => ⟨fun h5 => ⟨by simp, ?_⟩, fun h5 => ⟨fun h8 => ⟨by simp, ?_⟩, fun h8 => ⟨fun _ => ⟨rfl, take_ok hb (by omega) (by omega) (by omega) fun z fs z0 z1 hb => ?_⟩, fun _ => ?_⟩⟩⟩⟩
    · sizeOf_list_dec
      refine ⟨rfl, take_ok hb (by omega) (by omega) (by omega) fun u fs u0 u1 hb => ?_⟩
      sizeOf_list_dec
      refine ⟨by simp, rfl, take_ok hb (by omega) (by omega) (by omega) fun z fs z0 z1 hb => ?_⟩
      sizeOf_list_dec
      obtain ⟨v, rfl⟩ := Int.eq_ofNat_of_zero_le v0
      obtain ⟨u, rfl⟩ := Int.eq_ofNat_of_zero_le u0
      refine two_at z0 z1 ⟨by simp, hrl, ?_⟩ ⟨by simp, hrl, ?_⟩
      · exact fin (.set s v) fs ⟨hs, by omega⟩ (hb.mono (by omega))
      · exact fin (.set s u) fs ⟨hs, by omega⟩ (hb.mono (by omega))
    · rcases (by omega : w = 3 ∨ w = 4) with rfl | rfl
      · rw [show (3 : Int) - 3 = 0 from rfl, k_at0]
        exact ⟨by simp, hrl, fin (.two false s t) fs ⟨hs, ht⟩ (hb.mono (by omega))⟩
      · rw [show (4 : Int) - 3 = 1 from rfl, k_at1]
        exact ⟨by simp, hrl, fin (.two true s t) fs ⟨hs, ht⟩ (hb.mono (by omega))⟩
    · rcases (by omega : w = 5 ∨ w = 6 ∨ w = 7) with rfl | rfl | rfl
      · rw [show (5 : Int) - 5 = 0 from rfl, k_at0]
        exact ⟨by simp, hrl, fin (.one false s) fs hs (hb.mono (by omega))⟩
      · rw [show (6 : Int) - 5 = 1 from rfl, k_at1]
        exact ⟨by simp, hrl, fin (.one true s) fs hs (hb.mono (by omega))⟩
      · rw [show (7 : Int) - 5 = 2 from rfl, k_at2]
        exact ⟨by simp, hrl, fin (.one false s) fs hs (hb.mono (by omega))⟩
    · sizeOf_list_dec
      exact ⟨fun _ => ⟨by simp, hrl, fin .stop fs trivial (hb.mono (by omega))⟩, fun _ => ⟨fun _ => ⟨by simp, hrl, fin (.zero s a) fs ⟨hs, ha⟩ (hb.mono (by omega))⟩, fun _ => ⟨by simp, hrl, fin (.jump a) fs ha (hb.mono (by omega))⟩⟩⟩
    · exact ⟨fun _ => ⟨by simp, hrl, fin (.zero s a) fs ⟨hs, ha⟩ (hb.mono (by omega))⟩, fun _ => ⟨by simp, hrl, fin (.jump a) fs ha (hb.mono (by omega))⟩⟩
  · rintro ρ ⟨fs, rs, rfl, hl, hr, hb⟩
    rw [hxl] at hl hb
    sizeOf_list_dec
    exact q rs fs hl hr hb
theorem lets_k {i : Int} (h0 : 0 ≤ i) (h1 : i < 26) {Φ : Nat → Prop} (q : ∀ c, 97 ≤ c → c ≤ 122 → Φ c) : ex (atI ([97, 98, 99, 100, 101, 102, 103, 104, 105, 106, 107, 108, 109, 110, 111, 112, 113, 114, 115, 116, 117, 118, 119, 120, 121, 122] : Tx) i) Φ := by
  refine atI_ok h0 (by simpa using h1) fun c hc => ?_
  have := List.mem_of_getElem? hc
  simp only [List.mem_cons, List.not_mem_nil, or_false] at this
  exact q c (by omega) (by omega)
def zyx : Tx := [122, 121, 120, 119, 118, 117, 116, 115, 114, 113, 112, 111, 110, 109, 108, 107, 106, 105, 104, 103, 102, 101, 100, 99, 98, 97]
theorem zyx_k {i : Nat} (h : i < 26) : atI zyx (i : Int) = some (122 - i) := by
  refine atI_k i rfl ?_
  have : ∀ i ∈ List.range 26, zyx[i]? = some (122 - i) := by decide
  exact this i (List.mem_range.mpr h)
theorem lword_ok {n m : Nat} {fs : Fs} {Φ : T → Od.Env → Prop} {Ψ : Exn → Od.Env → Prop} (hb : Bx n fs) (h1 : 1 ≤ m) (hm : m ≤ 6) (hn : 1 + m ≤ n) (q : ∀ (w : Tx) fs', 1 ≤ w.length → w.length ≤ m → (∀ c ∈ w, 97 ≤ c ∧ c ≤ 122) → Bx (n - 1 - m) fs' → Φ (.sh (.str w)) [some (.rcd fs'), none]) : satO (f__law_word [T.rcd fs, .sh (.int (m : Nat))]) Φ Ψ := by
  simp only [f__law_word, B__law_word]
  sizeOf_list_dec
  refine ⟨rfl, rfl, take_ok hb (by omega) (by omega) (by omega) fun r fs r0 r1 hb => ?_⟩
  obtain ⟨r, rfl⟩ := Int.eq_ofNat_of_zero_le r0
  sizeOf_list_dec
  obtain ⟨xs, hxs⟩ : ∃ xs, xs = rngD 0 (1 + (r : Int)).toNat := ⟨_, rfl⟩
  have hxl : xs.length = 1 + r := by rw [hxs, rngD_len]; omega
  rw [← hxs]
  refine ⟨okI_of (by omega) (by omega), ?_⟩
  refine cmp_i (fun i acc ρ => ∃ (fs : Fs) (w : Tx), acc = (w.map fun c => [c]).map .str ∧ w.length = i ∧ (∀ c ∈ w, 97 ≤ c ∧ c ≤ 122) ∧ Bx (n - 1 - i) fs ∧ ρ = [some (T.rcd fs), some (T.sh (.int (m : Nat))), some (T.sh (.str [97, 98, 99, 100, 101, 102, 103, 104, 105, 106, 107, 108, 109, 110, 111, 112, 113, 114, 115, 116, 117, 118, 119, 120, 121, 122])), none]) (by omega) ⟨fs, [], rfl, rfl, fun _ h => (by cases h), hb, rfl⟩ ?_ ?_
  · rintro i x acc ρ hx _ ⟨fs, w, rfl, hwl, hw, hb, rfl⟩
    have hp : i < 1 + r := by rw [← hxl]; exact (List.getElem?_eq_some_iff.mp hx).1
    sizeOf_list_dec
    refine ⟨rfl, take_ok hb (by omega) (by omega) (by omega) fun v fs v0 v1 hb => ?_⟩
    sizeOf_list_dec
    refine ⟨by decide, lets_k v0 v1 fun c c0 c1 => ?_⟩
    refine ⟨fs, w ++ [c], by rw [List.map_append, List.map_append]; rfl, by rw [List.length_append, hwl]; rfl, fun y hy => ?_, hb.mono (by omega), rfl⟩
    rcases List.mem_append.mp hy with hy | hy
    · exact hw y hy
    · rw [List.mem_singleton.mp hy]; exact ⟨c0, c1⟩
  · rintro acc ρ _ ⟨fs, w, rfl, hwl, hw, hb, rfl⟩
    rw [hxl] at hwl hb
    sizeOf_list_dec
    rw [allStrs_map, ex_some, join1, sum1]
    exact ⟨by simp; omega, q w fs (by omega) (by omega) hw (hb.mono (by omega))⟩
/-- drawn names: the j-th ends in its own two letters -/
def nmJ (j : Nat) (s : Tx) : Prop := nmB s = true ∧ 3 ≤ s.length ∧ s.drop (s.length - 2) = [122 - j / 26, 122 - j % 26]
structure Nms (ns : List Tx) : Prop where
  n : ∀ j s, ns[j]? = some s → nmJ j s
theorem Nms.new {ns : List Tx} (h : Nms ns) {s : Tx} (hl : ns.length < 600) (hs : nmJ ns.length s) : s ∉ ns := by
  intro z
  obtain ⟨j, hj, e⟩ := List.getElem_of_mem z
  have hn := h.n j s (by rw [List.getElem?_eq_getElem hj, e])
  have e2 := hn.2.2
  rw [hs.2.2] at e2
  simp only [List.cons.injEq, and_true] at e2
  omega
theorem Nms.app {ns : List Tx} (h : Nms ns) {s : Tx} (hs : nmJ ns.length s) : Nms (ns ++ [s]) := by
  refine ⟨fun j t e => ?_⟩
  rcases Nat.lt_or_ge j ns.length with hj | hj
  · rw [List.getElem?_append_left hj] at e
    exact h.n j t e
  · rw [List.getElem?_append_right hj] at e
    obtain ⟨h1, h2⟩ := List.getElem?_eq_some_iff.mp e
    have : j = ns.length := by simp at h1; omega
    subst this
    simp at h2
    rw [← h2]; exact hs
theorem Nms.nodup {ns : List Tx} (h : Nms ns) (hl : ns.length < 600) : ns.Nodup := by
  rw [List.nodup_iff_pairwise_ne, List.pairwise_iff_getElem]
  intro i j hi hj hij e
  have a := h.n i ns[i] (List.getElem?_eq_getElem hi)
  have b := h.n j ns[j] (List.getElem?_eq_getElem hj)
  rw [← e] at b
  have e2 := a.2.2
  rw [b.2.2] at e2
  simp only [List.cons.injEq, and_true] at e2
  omega
theorem nmJ_of {w : Tx} {j : Nat} (h1 : 1 ≤ w.length) (h6 : w.length ≤ 6) (hw : ∀ c ∈ w, 97 ≤ c ∧ c ≤ 122) (hj : j < 600) : nmJ j (w ++ [122 - j / 26] ++ [122 - j % 26]) := by
  have hl : (w ++ [122 - j / 26] ++ [122 - j % 26]).length = w.length + 2 := by simp
  refine ⟨nm_of (by omega) (by omega) fun c hc => ?_, by omega, ?_⟩
  · rcases List.mem_append.mp hc with hc | hc
    · rcases List.mem_append.mp hc with hc | hc
      · exact hw c hc
      · rw [List.mem_singleton.mp hc]; omega
    · rw [List.mem_singleton.mp hc]; omega
  · rw [hl, show w.length + 2 - 2 = w.length by omega, List.append_assoc, List.drop_left]; rfl
theorem lnames_ok {n : Nat} {fs : Fs} {rs : List PRow} {e : D} {tl : Od.Env} {R : SM} {ΦS : Fl → Prop} {Ψ : Exn → Od.Env → Prop} (hb : Bx n fs) (hl : rs.length ≤ 40) (hn : 1000 ≤ n)
    (k : ∀ (ns : List Tx) fs', ns.length = rs.length + 4 → Nms ns → Bx (n - 1000) fs' → sat (R (some (T.rcd fs') :: some (T.sh (.lst (rs.map PRow.d))) :: some (T.sh e) :: some (T.dct (ns.map .inr) (ns.map fun _ => .bl true)) :: some (T.sh (.str zyx)) :: tl)) ΦS Ψ) :
    sat (sSeq (sWhile 1000000 (b2 cLt (hV (eCB fLen [hSc 3])) (hV (e2 fAdd (hV (eCB fLen [hSc 1])) (hV (eC (D.int 4)))))) (sAsg (gDx 3 (e2 fAdd (hV (e2 fAdd (hV (eFz (eCall f__law_word [Arg.io 0, Arg.v (eC (D.int 6))]))) (hV (e2 fIdx (hSc 4) (hV (e2 fFdiv (hV (eCB fLen [hSc 3])) (hV (eC (D.int 26))))))))) (hV (e2 fIdx (hSc 4) (hV (e2 fMod (hV (eCB fLen [hSc 3])) (hV (eC (D.int 26))))))))) (eC (D.bl true)))) R (some (T.rcd fs) :: some (T.sh (.lst (rs.map PRow.d))) :: some (T.sh e) :: some (T.dct [] []) :: some (T.sh (.str zyx)) :: tl)) ΦS Ψ := by
  refine seq_cut (fun ρ => ∃ (ns : List Tx) (fs : Fs), ns.length = rs.length + 4 ∧ Nms ns ∧ Bx (n - 1000) fs ∧ ρ = (some (T.rcd fs) :: some (T.sh (.lst (rs.map PRow.d))) :: some (T.sh e) :: some (T.dct (ns.map .inr) (ns.map fun _ => .bl true)) :: some (T.sh (.str zyx)) :: tl)) ?_ ?_
  · refine wh_inv (fun m ρ => ∃ (ns : List Tx) (fs : Fs), ns.length + m = rs.length + 4 ∧ Nms ns ∧ Bx (n - 20 * ns.length) fs ∧ ρ = (some (T.rcd fs) :: some (T.sh (.lst (rs.map PRow.d))) :: some (T.sh e) :: some (T.dct (ns.map .inr) (ns.map fun _ => .bl true)) :: some (T.sh (.str zyx)) :: tl)) (m := rs.length + 4) (by omega) ⟨[], fs, by simp, ⟨fun j s z => by simp at z⟩, by simpa using hb, rfl⟩ ?_
    rintro m ρ ⟨ns, fs, hm, hN, hb, rfl⟩
    sizeOf_list_dec
    rw [List.length_map, List.length_map]
    refine ⟨fun h => ?_, fun h => ?_⟩
    · refine ⟨rfl, lword_ok (m := 6) hb (by omega) (by omega) (by omega) fun w fs w1 w2 hw hb => ?_⟩
      sizeOf_list_dec
      rw [List.length_map]
      have e1 : (ns.length : Int) / 26 = ((ns.length / 26 : Nat) : Int) := by omega
      have e2 : (ns.length : Int) % 26 = ((ns.length % 26 : Nat) : Int) := by omega
      rw [e1, zyx_k (by omega), ex_some, e2, zyx_k (by omega), ex_some]
      have hj := nmJ_of (j := ns.length) w1 w2 hw (by omega)
      have hnew := hN.new (by omega) hj
      refine ⟨⟨by decide, by decide⟩, by decide, by simp; omega, by decide, by decide, by simp; omega, by omega, m - 1, by omega, ns ++ [w ++ [122 - ns.length / 26] ++ [122 - ns.length % 26]], fs, by simp; omega, hN.app hj, hb.mono (by simp; omega), ?_⟩
      rw [put_new hnew, List.map_append, List.map_append]; rfl
    · exact ⟨ns, fs, by omega, hN, hb.mono (by omega), rfl⟩
  · rintro ρ ⟨ns, fs, h1, h2, h3, rfl⟩
    exact k ns fs h1 h2 h3
/-- labels at hand and words left -/
structure Lbs (m : Nat) (ls ws : List Tx) : Prop where
  l : ls.length = m
  d : (ls ++ ws).Nodup
  n : ∀ s ∈ ls ++ ws, nmB s = true
/-- rows laid so far: r rows of the program; labels of places below u, and v of the idle ones; goals below g are labelled -/
structure Lay (rs : List PRow) (ls : List Tx) (r u v g l : Nat) (its : List Itm) (js : List (Nat × Nat)) : Prop where
  rows : rowsI its = rs.take r
  pl : plI its 0 = js.map fun p => (ls.getD p.1 [], p.2)
  nd : (js.map Prod.fst).Nodup
  bd : ∀ p ∈ js, p.1 < u ∨ (rs.length + 1 ≤ p.1 ∧ p.1 < rs.length + 1 + v)
  go : ∀ a < g, (∃ x ∈ rs, x.goal = some a) → (a, a) ∈ js
  len : its.length ≤ l
theorem Lay.lab {rs : List PRow} {ls : List Tx} {r u v g l : Nat} {its : List Itm} {js : List (Nat × Nat)} (h : Lay rs ls r u v g l its js) (hr : r ≤ rs.length) {j u' v' g' : Nat} (hj : ∀ p ∈ js, p.1 ≠ j) (hu : u ≤ u') (hv : v ≤ v') (hb : j < u' ∨ (rs.length + 1 ≤ j ∧ j < rs.length + 1 + v')) (hg : ∀ a < g', (∃ x ∈ rs, x.goal = some a) → a < g ∨ (a = j ∧ a = r)) :
    Lay rs ls r u' v' g' (l + 1) (its ++ [.lab (ls.getD j [])]) (js ++ [(j, r)]) := by
  refine ⟨by rw [rowsI_app, h.rows]; exact List.append_nil _, ?_, ?_, fun p hp => ?_, fun a ha hx => ?_, by rw [List.length_append]; have := h.len; simp; omega⟩
  · rw [plI_app, h.pl, h.rows, List.length_take, Nat.min_eq_left hr, List.map_append, Nat.zero_add]; rfl
  · rw [List.map_append, List.nodup_append]
    refine ⟨h.nd, by simp, fun a ha b hb e => ?_⟩
    obtain ⟨p, hp, rfl⟩ := List.mem_map.mp ha
    have : b = j := by simpa using hb
    exact hj p hp (by rw [e, this])
  · rcases List.mem_append.mp hp with hp | hp
    · rcases h.bd p hp with z | z
      · exact .inl (by omega)
      · exact .inr (by omega)
    · rw [List.mem_singleton.mp hp]; exact hb
  · rcases hg a ha hx with z | ⟨z, y⟩
    · exact List.mem_append_left _ (h.go a z hx)
    · subst z; subst y; simp
theorem Lay.more {rs : List PRow} {ls : List Tx} {r u v g l : Nat} {its : List Itm} {js : List (Nat × Nat)} (h : Lay rs ls r u v g l its js) {u' v' g' l' : Nat} (hu : u ≤ u') (hv : v ≤ v') (hl : l ≤ l') (hg : ∀ a < g', (∃ x ∈ rs, x.goal = some a) → a < g) : Lay rs ls r u' v' g' l' its js :=
  ⟨h.rows, h.pl, h.nd, fun p hp => by rcases h.bd p hp with z | z <;> omega, fun a ha hx => h.go a (hg a ha hx) hx, Nat.le_trans h.len hl⟩
theorem Lay.emp {rs : List PRow} {ls : List Tx} {r u v g l : Nat} {its : List Itm} {js : List (Nat × Nat)} (h : Lay rs ls r u v g l its js) : Lay rs ls r u v g (l + 1) (its ++ [.emp]) js :=
  ⟨by rw [rowsI_app, h.rows]; exact List.append_nil _, by rw [plI_app, h.pl]; exact List.append_nil _, h.nd, h.bd, h.go, by rw [List.length_append]; have := h.len; simp; omega⟩
theorem Lay.row {rs : List PRow} {ls : List Tx} {r u v g l : Nat} {its : List Itm} {js : List (Nat × Nat)} (h : Lay rs ls r u v g l its js) {x : PRow} (hx : rs[r]? = some x) : Lay rs ls (r + 1) u v g (l + 1) (its ++ [.row x]) js :=
  ⟨by rw [rowsI_app, h.rows, take_s hx]; rfl, by rw [plI_app, h.pl]; exact List.append_nil _, h.nd, h.bd, h.go, by rw [List.length_append]; have := h.len; simp; omega⟩
theorem Lay.tel {rs : List PRow} {ls ws : List Tx} {u v l : Nat} {its : List Itm} {js : List (Nat × Nat)} (h : Lay rs ls rs.length u v (rs.length + 1) l its js) (hL : Lbs (rs.length + 4) ls ws) (hu : u ≤ rs.length + 1) (hv : v ≤ 3) (hr : ∀ r ∈ rs, r.ok rs.length) (hl : rs.length ≤ 40) (hll : l ≤ 30000) : Tel (fun a => ls.getD a []) rs.length its ∧ rowsI its = rs := by
  have er : rowsI its = rs := by rw [h.rows, List.take_of_length_le (Nat.le_refl _)]
  have hin : ∀ p ∈ js, p.1 < ls.length := fun p hp => by
    have := hL.l
    rcases h.bd p hp with z | z <;> omega
  have hget : ∀ j < ls.length, ls.getD j [] = ls[j]! := fun j hj => by
    rw [List.getD_eq_getElem?_getD, getElem!_def, List.getElem?_eq_getElem hj]; rfl
  have hmem : ∀ j < ls.length, ls.getD j [] ∈ ls := fun j hj => by
    rw [List.getD_eq_getElem?_getD, List.getElem?_eq_getElem hj]; exact List.getElem_mem hj
  have hnd : ls.Nodup := (List.nodup_append.mp hL.d).1
  refine ⟨⟨fun n k hn => ?_, fun r hm => ?_, ?_, by rw [er]; omega, Nat.le_trans h.len hll⟩, er⟩
  · rw [h.pl] at hn
    obtain ⟨p, hp, e⟩ := List.mem_map.mp hn
    have e1 : ls.getD p.1 [] = n := congrArg Prod.fst e
    rw [← e1]
    exact hL.n _ (List.mem_append_left _ (hmem _ (hin p hp)))
  · rw [er] at hm
    refine ⟨hr r hm, fun a ha => ?_⟩
    have hal : a < rs.length + 1 := by
      have := hr r hm
      cases r <;> cases ha
      · have : a ≤ rs.length := this
        omega
      · have : a ≤ rs.length := this.2
        omega
    rw [h.pl]
    exact List.mem_map.mpr ⟨(a, a), h.go a hal ⟨r, hm, ha⟩, rfl⟩
  · rw [h.pl, List.map_map]
    have : (Prod.fst ∘ fun p : Nat × Nat => (ls.getD p.1 [], p.2)) = (fun j => ls.getD j []) ∘ Prod.fst := rfl
    rw [this, ← List.map_map]
    have key : ∀ xs : List Nat, xs.Nodup → (∀ x ∈ xs, x < ls.length) → (xs.map fun j => ls.getD j []).Nodup := by
      intro xs
      induction xs with
      | nil => intro _ _; exact List.nodup_nil
      | cons x xs ih =>
        intro h1 h2
        rw [List.nodup_cons] at h1
        rw [List.map_cons, List.nodup_cons]
        refine ⟨fun z => ?_, ih h1.2 fun y hy => h2 y (List.mem_cons_of_mem _ hy)⟩
        obtain ⟨y, hy, e⟩ := List.mem_map.mp z
        have hx := h2 x (by simp)
        have hy2 := h2 y (List.mem_cons_of_mem _ hy)
        rw [List.getD_eq_getElem?_getD, List.getD_eq_getElem?_getD, List.getElem?_eq_getElem hx, List.getElem?_eq_getElem hy2] at e
        have : x = y := by
          rw [List.nodup_iff_pairwise_ne, List.pairwise_iff_getElem] at hnd
          rcases Nat.lt_trichotomy x y with z | z | z
          · exact absurd e.symm (hnd x y hx hy2 z)
          · exact z
          · exact absurd e (hnd y x hy2 hx z)
        rw [this] at h1
        exact h1.1 hy
    refine key _ h.nd fun x hx => ?_
    obtain ⟨p, hp, rfl⟩ := List.mem_map.mp hx
    exact hin p hp
theorem inL_nats (x : Nat) (xs : List Nat) : inL (.int (x : Nat)) (natsD xs) = some (decide (x ∈ xs)) := by
  unfold inL natsD
  have h : ((D.int (x : Nat)).flat && (xs.map fun y : Nat => D.int (y : Nat)).all D.flat) = true := by simp [D.flat]
  rw [if_pos h]
  congr 1
  rw [Bool.eq_iff_iff, List.any_eq_true, decide_eq_true_eq]
  constructor
  · rintro ⟨d, hd, e⟩
    obtain ⟨y, hy, rfl⟩ := List.mem_map.mp hd
    simp [D.flatEq] at e
    have : y = x := by omega
    rw [← this]; exact hy
  · intro h
    exact ⟨_, List.mem_map.mpr ⟨x, h, rfl⟩, by simp [D.flatEq]⟩
theorem in_nats' (x : Nat) (xs : List Nat) {Φ : Bool → Prop} : ex (cIn (.int (x : Nat)) (.lst (natsD xs))) Φ = Φ (decide (x ∈ xs)) := by
  have : cIn (.int (x : Nat)) (.lst (natsD xs)) = inL (.int (x : Nat)) (natsD xs) := rfl
  rw [this, inL_nats]; rfl
theorem lab_ix {ls : List Tx} {j : Nat} (h : j < ls.length) {Φ : D → Prop} (q : Φ (.str (ls.getD j []))) : ex (atI (ls.map D.str) (j : Int)) Φ := by
  rw [atI_k (x := D.str (ls.getD j [])) j rfl (by rw [List.getElem?_map, List.getD_eq_getElem?_getD, List.getElem?_eq_getElem h]; rfl)]
  exact q
theorem Lbs.short {m : Nat} {ls ws : List Tx} (h : Lbs m ls ws) {j : Nat} (hj : j < ls.length) : (ls.getD j []).length ≤ 8 := by
  have : ls.getD j [] ∈ ls := by rw [List.getD_eq_getElem?_getD, List.getElem?_eq_getElem hj]; exact List.getElem_mem hj
  exact (nm_mem (h.n _ (List.mem_append_left _ this))).2.1
theorem lsheet_ok {n : Nat} {fs : Fs} {rs : List PRow} {e : Bool} {Φ : T → Od.Env → Prop} {Ψ : Exn → Od.Env → Prop} (hb : Bx n fs) (hr : ∀ r ∈ rs, r.ok rs.length) (hl : rs.length ≤ 40) (hn : 2000 ≤ n) (q : ∀ (lab : Nat → Tx) (its : List Itm) fs', Tel lab rs.length its → rowsI its = rs → its.length ≤ 200 → Bx (n - 2000) fs' → Φ (.sh (.str (txI lab its))) [some (.rcd fs'), none, none]) : satO (f__law_sheet [T.rcd fs, .sh (progD rs), .sh (.bl e)]) Φ Ψ := by
  simp only [f__law_sheet, B__law_sheet]
  unfold progD
  array_mem_dec
  generalize hA : sSet 3 _ = A
  refine ⟨rfl, seq_cut (fun ρ => ρ = [some (T.rcd fs), some (T.sh (.lst (rs.map PRow.d))), some (T.sh (.bl e)), some (T.dct [] []), none, none, none, none, none, none]) ?_ ?_⟩
  · subst hA
    sizeOf_list_dec
  rintro ρ rfl
  generalize hA : sSet 4 _ = A
  refine seq_cut (fun ρ => ρ = [some (T.rcd fs), some (T.sh (.lst (rs.map PRow.d))), some (T.sh (.bl e)), some (T.dct [] []), some (T.sh (.str zyx)), none, none, none, none, none]) ?_ ?_
  · subst hA
    sizeOf_list_dec; rfl
  rintro ρ rfl
  refine lnames_ok hb hl (by omega) fun ls fs hnl hN hb => ?_
  have hnd := hN.nodup (by omega)
  have hk : (ls.map Sum.inr).map kyD = ls.map D.str := by rw [List.map_map]; rfl
  have hL : Lbs (rs.length + 4) ls [] := by
    refine ⟨hnl, by rw [List.append_nil]; exact hnd, fun s hs => ?_⟩
    rw [List.append_nil] at hs
    obtain ⟨j, hj, e⟩ := List.getElem_of_mem hs
    exact (hN.n j s (by rw [List.getElem?_eq_getElem hj, e])).1
  generalize hA : sSetV 5 _ = A
  refine seq_cut (fun ρ => ρ = [some (T.rcd fs), some (T.sh (.lst (rs.map PRow.d))), some (T.sh (.bl e)), some (T.dct (ls.map .inr) (ls.map fun _ => .bl true)), some (T.sh (.str zyx)), some (T.sh (.lst (ls.map .str))), none, none, none, none]) ?_ ?_
  · subst hA
    sizeOf_list_dec
    rw [hk]
  rintro ρ rfl
  have hb : Bx (n - 1100) fs := hb.mono (by omega)
  sizeOf_list_dec
  obtain ⟨xs, hxs⟩ : ∃ xs, xs = rngD 0 (((rs.map PRow.d).length : Int) + 1).toNat := ⟨_, rfl⟩
  have hxl : xs.length = rs.length + 1 := by rw [hxs, rngD_len, List.length_map]; omega
  rw [← hxs]
  refine ⟨by decide, by rw [List.length_map]; exact okI_of (by omega) (by omega), ?_⟩
  have hll := hL.l
  refine for_inv (fun i ρ => ∃ its js fs o, (o = none ∨ ∃ d, o = some (T.sh d)) ∧ Lay rs ls (min i rs.length) i (min i 3) i (4 * i) its js ∧ Bx (n - 1100 - 3 * i) fs ∧ ρ = [some (T.rcd fs), some (T.sh (.lst (rs.map PRow.d))), some (T.sh (.bl e)), some (T.dct (ls.map .inr) (ls.map fun _ => .bl true)), some (T.sh (.str zyx)), some (T.sh (.lst (ls.map .str))), some (T.lst ((its.map (Itm.t fun a => ls.getD a [])).map .str)), none, o, none]) ⟨[], [], fs, none, .inl rfl, ⟨rfl, rfl, List.nodup_nil, fun _ h => (by cases h), fun a h => (by omega), Nat.le_refl _⟩, hb.mono (by omega), rfl⟩ ?_ ?_
  · rintro i x ρ hx ⟨its, js, fs, o, ho, hY, hb, rfl⟩
    have hp : i < rs.length + 1 := by rw [← hxl]; exact (List.getElem?_eq_some_iff.mp hx).1
    have hxi : x = .int (i : Nat) := by rw [hxs] at hx; rw [rngD_get hx, Int.zero_add]
    subst hxi
    have hmi : min i rs.length = i := by omega
    rw [hmi] at hY
    have hilen := hY.len
    array_mem_dec
    refine seq_cut (fun ρ => ∃ its js fs, Lay rs ls i (i + 1) (min i 3) (i + 1) (4 * i + 1) its js ∧ Bx (n - 1100 - 3 * i - 1) fs ∧ ρ = [some (T.rcd fs), some (T.sh (.lst (rs.map PRow.d))), some (T.sh (.bl e)), some (T.dct (ls.map .inr) (ls.map fun _ => .bl true)), some (T.sh (.str zyx)), some (T.sh (.lst (ls.map .str))), some (T.lst ((its.map (Itm.t fun a => ls.getD a [])).map .str)), some (T.sh (.int (i : Nat))), o, none]) ?_ ?_
    · sizeOf_list_dec
      refine cmp_i (fun j acc ρ => acc = natsD ((rs.take j).filterMap PRow.goal) ∧ ρ = [some (T.rcd fs), some (T.sh (.lst (rs.map PRow.d))), some (T.sh (.bl e)), some (T.dct (ls.map .inr) (ls.map fun _ => .bl true)), some (T.sh (.str zyx)), some (T.sh (.lst (ls.map .str))), some (T.lst ((its.map (Itm.t fun a => ls.getD a [])).map .str)), some (T.sh (.int (i : Nat))), o, none]) (by rw [List.length_map]; omega) ⟨rfl, rfl⟩ ?_ ?_
      · rintro j x acc ρ hx _ ⟨rfl, rfl⟩
        obtain ⟨r, hri, hrm, rfl⟩ := prow_at hx
        have hs : (rs.take (j + 1)).filterMap PRow.goal = (rs.take j).filterMap PRow.goal ++ r.goal.toList := by
          rw [take_s hri, List.filterMap_append]
          cases e : r.goal <;> simp [e]
        rw [hs]
        obtain ⟨w, qs, hd, hg, hl1, _, _⟩ := prd r fun _ => []
        rw [hd]
        sizeOf_list_dec
        refine ⟨by simp, fun hw => ?_, fun hw => ?_⟩
        · rw [decide_eq_true (show w = wJump ∨ w = wZero from hw)] at hg
          obtain ⟨a, ea⟩ := Option.isSome_iff_exists.mp hg
          obtain ⟨ps, e1, _⟩ := hl1 a ea
          rw [e1, atI_lst, ex_some, ea, Option.toList_some, natsD_app]
          rcases ho with rfl | ⟨d0, rfl⟩ <;> exact ⟨rfl, rfl⟩
        · rw [decide_eq_false (show ¬ (w = wJump ∨ w = wZero) from hw)] at hg
          have ea : r.goal = Option.none := by cases e : r.goal with
            | none => rfl
            | some n => rw [e] at hg; cases hg
          rw [ea, Option.toList_none, List.append_nil]
          rcases ho with rfl | ⟨d0, rfl⟩ <;> exact ⟨rfl, rfl⟩
      · rintro acc ρ _ ⟨rfl, rfl⟩
        rw [List.length_map, List.take_of_length_le (Nat.le_refl _)]
        sizeOf_list_dec
        rw [in_nats']
        have hsh := hL.short (j := i) (by omega)
        have hnj : ∀ p ∈ js, p.1 ≠ i := fun p hp => by rcases hY.bd p hp with z | z <;> omega
        have hgl : i ∈ rs.filterMap PRow.goal ↔ ∃ x ∈ rs, x.goal = some i := List.mem_filterMap
        have hadd := hY.lab (j := i) (u' := i + 1) (v' := min i 3) (g' := i + 1) (by omega) hnj (by omega) (Nat.le_refl _) (.inl (by omega)) (fun a ha _ => by omega)
        have hrl : ((its.map (Itm.t fun a => ls.getD a [])).map D.str).length < 1000000 := by rw [List.length_map, List.length_map]; omega
        refine ⟨fun h => ?_, fun h => ⟨rfl, take_ok hb (by omega) (by omega) (by omega) fun v fs v0 v1 hb => ?_⟩⟩
        · refine lab_ix (by omega) ?_
          sizeOf_list_dec
          refine ⟨by show _ + 1 ≤ _; omega, hrl, its ++ [.lab (ls.getD i [])], js ++ [(i, i)], fs, hadd, hb.mono (by omega), ?_⟩
          rw [List.map_append, List.map_append]; rfl
        · sizeOf_list_dec
          refine ⟨fun _ => lab_ix (by omega) ?_, fun _ => ?_⟩
          · sizeOf_list_dec
            refine ⟨by show _ + 1 ≤ _; omega, hrl, its ++ [.lab (ls.getD i [])], js ++ [(i, i)], fs, hadd, hb.mono (by omega), ?_⟩
            rw [List.map_append, List.map_append]; rfl
          · refine ⟨its, js, fs, hY.more (by omega) (Nat.le_refl _) (by omega) (fun a ha hz => ?_), hb.mono (by omega), rfl⟩
            rcases Nat.lt_or_ge a i with z | z
            · exact z
            · have : a = i := by omega
              subst this
              exact absurd (hgl.mpr hz) (of_decide_eq_false h)
    rintro ρ ⟨its, js, fs, hY, hb, rfl⟩
    have hilen := hY.len
    refine seq_cut (fun ρ => ∃ its js fs, Lay rs ls i (i + 1) (min (i + 1) 3) (i + 1) (4 * i + 2) its js ∧ Bx (n - 1100 - 3 * i - 2) fs ∧ ρ = [some (T.rcd fs), some (T.sh (.lst (rs.map PRow.d))), some (T.sh (.bl e)), some (T.dct (ls.map .inr) (ls.map fun _ => .bl true)), some (T.sh (.str zyx)), some (T.sh (.lst (ls.map .str))), some (T.lst ((its.map (Itm.t fun a => ls.getD a [])).map .str)), some (T.sh (.int (i : Nat))), o, none]) ?_ ?_
    · sizeOf_list_dec
      have hno : ∀ fs', Bx (n - 1100 - 3 * i - 2) fs' → ∃ (its_1 : List Itm) (js : List (Nat × Nat)) (fs : Fs), Lay rs ls i (i + 1) (min (i + 1) 3) (i + 1) (4 * i + 2) its_1 js ∧ Bx (n - 1100 - 3 * i - 2) fs ∧ [some (T.rcd fs'), some (T.sh (.lst (rs.map PRow.d))), some (T.sh (.bl e)), some (T.dct (ls.map .inr) (ls.map fun _ => .bl true)), some (T.sh (.str zyx)), some (T.sh (.lst (ls.map .str))), some (T.lst ((its.map (Itm.t fun a => ls.getD a [])).map .str)), some (T.sh (.int (i : Nat))), o, none] = [some (T.rcd fs), some (T.sh (.lst (rs.map PRow.d))), some (T.sh (.bl e)), some (T.dct (ls.map .inr) (ls.map fun _ => .bl true)), some (T.sh (.str zyx)), some (T.sh (.lst (ls.map .str))), some (T.lst ((its_1.map (Itm.t fun a => ls.getD a [])).map .str)), some (T.sh (.int (i : Nat))), o, none] := fun fs' h => ⟨its, js, fs', hY.more (Nat.le_refl _) (by omega) (by omega) (fun a ha _ => ha), h, rfl⟩
      refine ⟨fun h3 => ⟨rfl, take_ok hb (by omega) (by omega) (by omega) fun v fs v0 v1 hb => ?_⟩, fun _ => hno fs (hb.mono (by omega))⟩
      sizeOf_list_dec
      refine ⟨fun _ => ?_, fun _ => hno fs (hb.mono (by omega))⟩
      rw [List.length_map, show (rs.length : Int) + 1 + (i : Int) = ((rs.length + 1 + i : Nat) : Int) by omega]
      refine lab_ix (by omega) ?_
      have hsh := hL.short (j := rs.length + 1 + i) (by omega)
      sizeOf_list_dec
      refine ⟨by show _ + 1 ≤ _; omega, by rw [List.length_map, List.length_map]; omega, its ++ [.lab (ls.getD (rs.length + 1 + i) [])], js ++ [(rs.length + 1 + i, i)], fs, hY.lab (by omega) (fun p hp => by rcases hY.bd p hp with z | z <;> omega) (Nat.le_refl _) (by omega) (.inr ⟨by omega, by omega⟩) (fun a ha _ => .inl ha), hb.mono (by omega), ?_⟩
      rw [List.map_append, List.map_append]; rfl
    rintro ρ ⟨its, js, fs, hY, hb, rfl⟩
    have hilen := hY.len
    refine seq_cut (fun ρ => ∃ its js fs, Lay rs ls i (i + 1) (min (i + 1) 3) (i + 1) (4 * i + 3) its js ∧ Bx (n - 1100 - 3 * i - 3) fs ∧ ρ = [some (T.rcd fs), some (T.sh (.lst (rs.map PRow.d))), some (T.sh (.bl e)), some (T.dct (ls.map .inr) (ls.map fun _ => .bl true)), some (T.sh (.str zyx)), some (T.sh (.lst (ls.map .str))), some (T.lst ((its.map (Itm.t fun a => ls.getD a [])).map .str)), some (T.sh (.int (i : Nat))), o, none]) ?_ ?_
    · sizeOf_list_dec
      refine ⟨fun h3 => ⟨rfl, take_ok hb (by omega) (by omega) (by omega) fun v fs v0 v1 hb => ?_⟩, fun _ => ⟨its, js, fs, hY.more (Nat.le_refl _) (Nat.le_refl _) (by omega) (fun a ha _ => ha), hb.mono (by omega), rfl⟩⟩
      sizeOf_list_dec
      refine ⟨fun _ => ⟨by rw [List.length_map, List.length_map]; omega, its ++ [.emp], js, fs, hY.emp.more (Nat.le_refl _) (Nat.le_refl _) (by omega) (fun a ha _ => ha), hb.mono (by omega), ?_⟩, fun _ => ⟨its, js, fs, hY.more (Nat.le_refl _) (Nat.le_refl _) (by omega) (fun a ha _ => ha), hb.mono (by omega), rfl⟩⟩
      rw [List.map_append, List.map_append]; rfl
    rintro ρ ⟨its, js, fs, hY, hb, rfl⟩
    have hilen := hY.len
    array_mem_dec
    rw [List.length_map]
    refine ⟨fun h => ?_, fun h => ?_⟩
    · have hil : i < rs.length := by omega
      have hri := List.getElem?_eq_getElem hil
      have hrm := List.mem_of_getElem? hri
      have hro := hr _ hrm
      have hgo : ∀ a, PRow.goal rs[i] = some a → a < ls.length := fun a ha => by
        generalize rs[i] = x at hro ha
        cases x <;> cases ha
        · have : a ≤ rs.length := hro
          omega
        · have : a ≤ rs.length := hro.2
          omega
      have hnm : ∀ a, PRow.goal rs[i] = some a → nmB (ls.getD a []) = true := fun a ha => hL.n _ (List.mem_append_left _ (by have := hgo a ha; rw [List.getD_eq_getElem?_getD, List.getElem?_eq_getElem this]; exact List.getElem_mem this))
      refine seq_cut (fun ρ => ρ = [some (T.rcd fs), some (T.sh (.lst (rs.map PRow.d))), some (T.sh (.bl e)), some (T.dct (ls.map .inr) (ls.map fun _ => .bl true)), some (T.sh (.str zyx)), some (T.sh (.lst (ls.map .str))), some (T.lst ((its.map (Itm.t fun a => ls.getD a [])).map .str)), some (T.sh (.int (i : Nat))), some (T.sh (PRow.d rs[i])), none]) ?_ ?_
      · sizeOf_list_dec
        rw [atI_k (x := PRow.d rs[i]) i rfl (by rw [List.getElem?_map, hri]; rfl), ex_some]
      rintro ρ rfl
      refine seq_cut (fun ρ => ρ = [some (T.rcd fs), some (T.sh (.lst (rs.map PRow.d))), some (T.sh (.bl e)), some (T.dct (ls.map .inr) (ls.map fun _ => .bl true)), some (T.sh (.str zyx)), some (T.sh (.lst (ls.map .str))), some (T.lst ((its.map (Itm.t fun a => ls.getD a [])).map .str)), some (T.sh (.int (i : Nat))), some (T.sh (.tup (PRow.wd (fun a => ls.getD a []) rs[i]))), none]) ?_ ?_
      · obtain ⟨w, qs, hd, hg, hl1, hl2, h3⟩ := prd rs[i] fun a => ls.getD a []
        rw [hd]
        sizeOf_list_dec
        refine ⟨by simp, fun hw => ?_, fun hw => ?_⟩
        · rw [decide_eq_true (show w = wJump ∨ w = wZero from hw)] at hg
          obtain ⟨a, ea⟩ := Option.isSome_iff_exists.mp hg
          obtain ⟨ps, e1, e2⟩ := hl1 a ea
          have hpl : ps.length ≤ 2 := by
            have := congrArg List.length e1
            simp only [List.length_cons, List.length_append, List.length_nil] at this
            omega
          rw [e1, atI_lst, ex_some, cut_lst, e2]
          exact lab_ix (hgo a ea) ⟨by simp, by simp; omega, rfl⟩
        · rw [decide_eq_false (show ¬ (w = wJump ∨ w = wZero) from hw)] at hg
          have ea : PRow.goal rs[i] = Option.none := by cases e : PRow.goal rs[i] with
            | none => rfl
            | some n => rw [e] at hg; cases hg
          rw [hl2 ea]
      rintro ρ rfl
      sizeOf_list_dec
      refine cmp_i (fun j acc ρ => acc = (((PRow.wd (fun a => ls.getD a []) rs[i]).take j).map shT).map .str ∧ ρ = [some (T.rcd fs), some (T.sh (.lst (rs.map PRow.d))), some (T.sh (.bl e)), some (T.dct (ls.map .inr) (ls.map fun _ => .bl true)), some (T.sh (.str zyx)), some (T.sh (.lst (ls.map .str))), some (T.lst ((its.map (Itm.t fun a => ls.getD a [])).map .str)), some (T.sh (.int (i : Nat))), some (T.sh (.tup (PRow.wd (fun a => ls.getD a []) rs[i]))), none]) (by have := wd_l (fun a => ls.getD a []) rs[i]; omega) ⟨rfl, rfl⟩ ?_ ?_
      · rintro j x acc ρ hx _ ⟨rfl, rfl⟩
        sizeOf_list_dec
        refine ⟨wd_ok hro hnm x (List.mem_of_getElem? hx), ?_⟩
        rw [take_s hx, List.map_append, List.map_append]; rfl
      · rintro acc ρ _ ⟨rfl, rfl⟩
        rw [List.take_of_length_le (Nat.le_refl _), wd_t]
        sizeOf_list_dec
        have hw := ws_mem hro hnm
        have h3 : (PRow.ws (fun a => ls.getD a []) rs[i]).length ≤ 3 := by rw [← wd_t, List.length_map]; exact wd_l _ _
        rw [allStrs_map, ex_some]
        have e1 : min (i + 1) rs.length = i + 1 := by omega
        rw [e1]
        refine ⟨join_b (k := 8) (fun t ht => (hw t ht).2) (by omega), by rw [List.length_map, List.length_map]; omega, its ++ [.row rs[i]], js, fs, some (T.sh (.tup (PRow.wd (fun a => ls.getD a []) rs[i]))), .inr ⟨_, rfl⟩, (hY.row hri).more (Nat.le_refl _) (Nat.le_refl _) (by omega) (fun a ha _ => ha), hb.mono (by omega), ?_⟩
        rw [List.map_append, List.map_append]; rfl
    · refine ⟨its, js, fs, o, ho, ?_, hb.mono (by omega), rfl⟩
      have e1 : min (i + 1) rs.length = i := by omega
      rw [e1]
      exact hY.more (Nat.le_refl _) (Nat.le_refl _) (by omega) (fun a ha _ => ha)
  · rintro ρ ⟨its, js, fs, o, ho, hY, hb, rfl⟩
    rw [hxl] at hY hb
    rw [show min (rs.length + 1) rs.length = rs.length by omega] at hY
    have hlen := hY.len
    obtain ⟨hT, hrw⟩ := hY.tel hL (Nat.le_refl _) (by omega) hr hl (by omega)
    sizeOf_list_dec
    rw [allStrs_map, ex_some]
    refine ⟨join_b (k := 27) (fun t ht => ?_) ?_, q _ its fs hT hrw (by omega) (hb.mono (by omega))⟩
    · obtain ⟨it, hit, rfl⟩ := List.mem_map.mp ht
      exact (t_ok (hT.ok it hit)).2
    · rw [List.length_map]; have := hT.c; omega
theorem cutD_take {α : Type} (xs : List α) (k : Nat) : cutD xs none (some (k : Int)) = xs.take k := by
  unfold cutD
  rw [show HT.sIx xs.length 0 none = 0 from rfl, HT.sIx_nat]
  rw [List.drop_zero, Nat.sub_zero]
  by_cases h : k ≤ xs.length
  · rw [Nat.min_eq_left h]
  · rw [Nat.min_eq_right (by omega), List.take_of_length_le (Nat.le_refl _), List.take_of_length_le (by omega)]
theorem cutD_drop {α : Type} (xs : List α) (k : Nat) : cutD xs (some (k : Int)) none = xs.drop k := by
  unfold cutD
  rw [show HT.sIx xs.length xs.length none = xs.length from rfl, HT.sIx_nat]
  by_cases h : k ≤ xs.length
  · rw [Nat.min_eq_left h, List.take_of_length_le (by simp)]
  · rw [Nat.min_eq_right (by omega), List.drop_of_length_le (Nat.le_refl _), List.drop_of_length_le (show xs.length ≤ k by omega)]; simp
theorem cutD_mid {α : Type} (xs : List α) (a b : Nat) (h : a ≤ b) : cutD xs (some (a : Int)) (some (b : Int)) = (xs.take b).drop a := by
  unfold cutD
  rw [HT.sIx_nat, HT.sIx_nat]
  rcases Nat.le_total a xs.length with h1 | h1
  · rw [Nat.min_eq_left h1, List.drop_take]
    rcases Nat.le_total b xs.length with h2 | h2
    · rw [Nat.min_eq_left h2]
    · rw [Nat.min_eq_right h2, List.take_of_length_le (by simp), List.take_of_length_le (by simp; omega)]
  · rw [Nat.min_eq_right h1, List.drop_of_length_le (Nat.le_refl _), List.drop_of_length_le (by simp; omega)]
    simp
/-! lists of rows -/
theorem all_at {xs : List D} {i : Int} (h0 : 0 ≤ i) (h1 : i < xs.length) {P : D → Prop} (h : ∀ x ∈ xs, P x) {Φ : D → Prop} (q : ∀ x, P x → Φ x) : ex (atI xs i) Φ := atI_ok h0 h1 fun x hx => q x (h x (List.mem_of_getElem? hx))
theorem signs_at {s : Tx} {k : Nat} (hs : s.length = k) (ha : asc s) {i : Int} (h0 : 0 ≤ i) (h1 : i < k) {Φ : Nat → Prop} (q : ∀ c, c ≤ 127 → Φ c) : ex (atI s i) Φ := atI_ok h0 (by rw [hs]; exact h1) fun c hc => q c (ha c (List.mem_of_getElem? hc))
/-- lists of rows: their signs, lengths and weight -/
structure Rws (R W : Nat) (ts : List Tx) : Prop where
  a : ∀ p ∈ ts, asc p ∧ 10 ∉ p ∧ p.length ≤ R
  w : (ts.map List.length).sum + ts.length ≤ W
theorem Rws.app {R V W : Nat} {ts us : List Tx} (h : Rws R V ts) (g : Rws R W us) : Rws R (V + W) (ts ++ us) := ⟨fun p hp => by
  rcases List.mem_append.mp hp with hp | hp
  · exact h.a p hp
  · exact g.a p hp, by rw [List.map_append, List.sum_append, List.length_append]; have := h.w; have := g.w; omega⟩
theorem joinT_w (c : Nat) : ∀ ts : List Tx, (joinT [c] ts).length ≤ (ts.map List.length).sum + ts.length
  | [] => Nat.zero_le _
  | [t] => by show t.length ≤ _; simp
  | t :: u :: r => by
    have ih := joinT_w c (u :: r)
    rw [joinT_cons c t (by simp), List.length_append, List.length_cons (a := c)]
    rw [List.map_cons, List.sum_cons, List.length_cons (a := t)]
    omega
theorem Rws.lq {R W : Nat} {ts : List Tx} (h : Rws R W ts) : Lq W R (joinT [10] ts) := ⟨fun x hx => by
  rcases joinT_mem 10 ts x hx with z | ⟨t, ht, z⟩
  · omega
  · exact (h.a t ht).1 x z, Nat.le_trans (joinT_w 10 ts) h.w, Rw.join (fun p hp => (h.a p hp).2.1) fun p hp => (h.a p hp).2.2⟩
theorem txI_lq {lab : Nat → Tx} {m : Nat} {its : List Itm} (h : Tel lab m its) (hl : its.length ≤ 200) : Lq 5600 27 (txI lab its) := by
  have hi := h.ok
  refine ⟨(txI_tok hi h.c).a, ?_, ?_⟩
  · have := joinT_len 10 27 (its.map (Itm.t lab)) fun t ht => by
      obtain ⟨it, hit, rfl⟩ := List.mem_map.mp ht
      exact (t_ok (hi it hit)).2
    rw [List.length_map] at this
    unfold txI
    omega
  · refine Rw.join (fun p hp z => ?_) fun p hp => ?_
    · obtain ⟨it, hit, rfl⟩ := List.mem_map.mp hp
      have := (t_ok (hi it hit)).1 10 z
      omega
    · obtain ⟨it, hit, rfl⟩ := List.mem_map.mp hp
      exact (t_ok (hi it hit)).2
def sgn95 : Tx := [32, 33, 34, 35, 36, 38, 39, 40, 41, 42, 43, 44, 45, 46, 47, 48, 49, 50, 51, 52, 53, 54, 55, 56, 57, 58, 59, 60, 61, 62, 63, 64, 65, 66, 67, 68, 69, 70, 71, 72, 73, 74, 75, 76, 77, 78, 79, 80, 81, 82, 83, 84, 85, 86, 87, 88, 89, 90, 91, 92, 93, 94, 95, 96, 97, 98, 99, 100, 101, 102, 103, 104, 105, 106, 107, 108, 109, 110, 111, 112, 113, 114, 115, 116, 117, 118, 119, 120, 121, 122, 123, 124, 125, 126, 10]
def sgn18 : Tx := [48, 49, 50, 51, 52, 53, 54, 55, 56, 57, 58, 32, 10, 97, 98, 99, 100, 122]
theorem lsigns_ok {Φ : T → Od.Env → Prop} {Ψ : Exn → Od.Env → Prop} (q : Φ (.sh (.str sgn95)) []) : satO (f__law_signs []) Φ Ψ := by
  simp only [f__law_signs, B__law_signs]
  sizeOf_list_dec
  exact ⟨rfl, q⟩
/-- the three pieces at a place -/
structure Pcs (t : Tx) (k : Nat) (A H B : Tx) : Prop where
  l : A.length + H.length + B.length = t.length
  h : H.length ≤ 1
  a : A = t.take k
  m : ∀ c ∈ H, c ∈ t
  b : B = t.drop (k + 1)
theorem pcs_of (t : Tx) (k : Nat) : Pcs t k (t.take k) ((t.take (k + 1)).drop k) (t.drop (k + 1)) := by
  refine ⟨?_, ?_, rfl, fun c hc => List.mem_of_mem_take (List.mem_of_mem_drop hc), rfl⟩
  · simp only [List.length_take, List.length_drop]; omega
  · simp only [List.length_take, List.length_drop]; omega
theorem lspelt_ok {n L R : Nat} {fs : Fs} {t : Tx} {Φ : T → Od.Env → Prop} {Ψ : Exn → Od.Env → Prop} (hb : Bx n fs) (hn : 4 ≤ n) (ht : Lq L R t) (hL : L ≤ 200000) (q : ∀ (u : Tx) fs', Lq (L + 10) (2 * R + 10) u → Bx (n - 4) fs' → Φ (.sh (.str u)) [some (.rcd fs'), none]) : satO (f__law_spelt [T.rcd fs, .sh (.str t)]) Φ Ψ := by
  have htl := ht.l
  simp only [f__law_spelt, B__law_spelt]
  array_mem_dec
  generalize hA : sPar 2 _ 3 _ = A
  refine ⟨rfl, seq_cut (fun ρ => ∃ (w z : Int) (fs : Fs), 0 ≤ w ∧ w < 8 ∧ 0 ≤ z ∧ z < 2 ∧ Bx (n - 2) fs ∧ ρ = [some (T.rcd fs), some (T.sh (.str t)), some (T.sh (.int w)), some (T.sh (.int z)), none, none, none, none, none, none, none]) ?_ ?_⟩
  · subst hA
    sizeOf_list_dec
    refine ⟨rfl, take_ok hb (by omega) (by omega) (by omega) fun w fs w0 w1 hb => ?_⟩
    sizeOf_list_dec
    refine ⟨rfl, rfl, take_ok hb (by omega) (by omega) (by omega) fun z fs z0 z1 hb => ?_⟩
    sizeOf_list_dec
    exact ⟨rfl, w, z, fs, w0, w1, z0, z1, hb.mono (by omega), rfl⟩
  rintro ρ ⟨w, z, fs, w0, w1, z0, z1, hb, rfl⟩
  generalize hA : sSetV 4 _ = A
  refine seq_cut (fun ρ => ∃ (S : Tx), asc S ∧ 0 < S.length ∧ S.length ≤ 100 ∧ ρ = [some (T.rcd fs), some (T.sh (.str t)), some (T.sh (.int w)), some (T.sh (.int z)), some (T.sh (.str S)), none, none, none, none, none, none]) ?_ ?_
  · subst hA
    sizeOf_list_dec
    refine ⟨rfl, lsigns_ok ?_⟩
    sizeOf_list_dec
    refine ⟨by simp, two_at z0 z1 ⟨sgn95, ?_, by decide, by decide, rfl⟩ ⟨sgn18, ?_, by decide, by decide, rfl⟩⟩
    · unfold asc; decide
    · unfold asc; decide
  rintro ρ ⟨S, hS, hS0, hS1, rfl⟩
  generalize hA : sSetV 5 _ = A
  refine seq_cut (fun ρ => ∃ (c : Nat) (fs : Fs), c ≤ 127 ∧ Bx (n - 3) fs ∧ ρ = [some (T.rcd fs), some (T.sh (.str t)), some (T.sh (.int w)), some (T.sh (.int z)), some (T.sh (.str S)), some (T.sh (.str [c])), none, none, none, none, none]) ?_ ?_
  · subst hA
    sizeOf_list_dec
    refine ⟨rfl, by omega, take_ok hb (by omega) (by omega) (by omega) fun v fs v0 v1 hb => ?_⟩
    sizeOf_list_dec
    exact ⟨by omega, signs_at rfl hS v0 v1 fun c hc => ⟨c, fs, hc, hb.mono (by omega), rfl⟩⟩
  rintro ρ ⟨c, fs, hc, hb, rfl⟩
  generalize hA : sSetV 6 _ = A
  refine seq_cut (fun ρ => ∃ (k : Nat) (fs : Fs), Bx (n - 4) fs ∧ ρ = [some (T.rcd fs), some (T.sh (.str t)), some (T.sh (.int w)), some (T.sh (.int z)), some (T.sh (.str S)), some (T.sh (.str [c])), some (T.sh (.int (k : Nat))), none, none, none, none]) ?_ ?_
  · subst hA
    sizeOf_list_dec
    refine ⟨rfl, by omega, take_ok hb (by omega) (by omega) (by omega) fun v fs v0 v1 hb => ?_⟩
    sizeOf_list_dec
    obtain ⟨v, rfl⟩ := Int.eq_ofNat_of_zero_le v0
    exact ⟨v, fs, hb.mono (by omega), rfl⟩
  rintro ρ ⟨k, fs, hb, rfl⟩
  sizeOf_list_dec
  rw [show (k : Int) + 1 = ((k + 1 : Nat) : Int) by omega, cutD_take, cutD_drop, cutD_mid t k (k + 1) (by omega)]
  have hP := pcs_of t k
  generalize t.take k = A at hP ⊢
  generalize (t.take (k + 1)).drop k = H at hP ⊢
  generalize t.drop (k + 1) = B at hP ⊢
  have e1 : cutD B none (some 1) = B.take 1 := cutD_take B 1
  have e2 : cutD B (some 1) none = B.drop 1 := cutD_drop B 1
  have e9 : repT [c] (Int.toNat 9) = [c, c, c, c, c, c, c, c, c] := rfl
  rw [e1, e2, e9]
  have hAq : Lq L R A := by rw [hP.a]; exact ht.take k
  have hBq : Lq L R B := by rw [hP.b]; exact ht.drop (k + 1)
  have hHa : asc H := fun x hx => ht.a x (hP.m x hx)
  have hHr : Rw 1 H := Rw.len.mono hP.h
  have hca : asc [c] := fun x hx => by rw [List.mem_singleton.mp hx]; exact hc
  have hcr : Rw 1 [c] := Rw.len
  have hc9 : asc [c, c, c, c, c, c, c, c, c] := fun x hx => by
    have : x = c := by simpa using hx
    rw [this]; exact hc
  have h9r : Rw 9 [c, c, c, c, c, c, c, c, c] := Rw.len
  have hl := hP.l
  have hh := hP.h
  have hb1 : (B.take 1).length + (B.drop 1).length = B.length := by rw [List.length_take, List.length_drop]; omega
  have app : ∀ {x y : Tx}, asc x → asc y → asc (x ++ y) := fun h g z hz => by
    rcases List.mem_append.mp hz with hz | hz
    · exact h z hz
    · exact g z hz
  have hB1a : asc (B.take 1) := fun x hx => hBq.a x (List.mem_of_mem_take hx)
  have hB2a : asc (B.drop 1) := fun x hx => hBq.a x (List.mem_of_mem_drop hx)
  have hB1r : Rw 1 (B.take 1) := Rw.len.mono (by rw [List.length_take]; omega)
  have hB2r : Rw R (B.drop 1) := hBq.r.drop 1
  repeat (refine And.intro (by first | omega | (simp only [List.length_append, List.length_singleton, List.length_cons, List.length_nil]; omega) | exact ⟨by decide, by decide, by simp, by simp⟩ | rfl) ?_)
  refine all_at (P := fun x => ∃ u, x = .str u ∧ Lq (L + 10) (2 * R + 10) u) w0 (by show w < 8; exact w1) (fun x hx => ?_) (fun x hx => by obtain ⟨u, rfl, hq⟩ := hx; exact q u fs hq hb)
  simp only [List.mem_append, List.mem_cons, List.not_mem_nil, or_false] at hx
  rcases hx with ((rfl | rfl | rfl | rfl) | rfl) | rfl | rfl | rfl
  · exact ⟨_, rfl, app (app (app hAq.a hca) hHa) hBq.a, by simp; omega, (((hAq.r.app hcr).app hHr).app hBq.r).mono (by omega)⟩
  · exact ⟨_, rfl, app (app hAq.a hca) hBq.a, by simp; omega, ((hAq.r.app hcr).app hBq.r).mono (by omega)⟩
  · exact ⟨_, rfl, app hAq.a hBq.a, by simp; omega, (hAq.r.app hBq.r).mono (by omega)⟩
  · exact ⟨_, rfl, app (app (app hAq.a hHa) hHa) hBq.a, by simp; omega, (((hAq.r.app hHr).app hHr).app hBq.r).mono (by omega)⟩
  · exact ⟨_, rfl, app (app (app hAq.a hB1a) hHa) hB2a, by simp only [List.length_append]; omega, (((hAq.r.app hB1r).app hHr).app hB2r).mono (by omega)⟩
  · exact ⟨_, rfl, hAq.a, by have := hAq.l; omega, hAq.r.mono (by omega)⟩
  · exact ⟨_, rfl, app hHa hBq.a, by simp; omega, (hHr.app hBq.r).mono (by omega)⟩
  · exact ⟨_, rfl, app (app (app hAq.a hc9) hHa) hBq.a, by simp; omega, (((hAq.r.app h9r).app hHr).app hBq.r).mono (by omega)⟩
def odd10 : List Tx := [[106, 117, 109, 112, 32, 110, 111, 119, 104, 101, 114, 101], [122, 101, 114, 111, 32, 97, 32, 98], [97, 58], [98, 58], [115, 101, 116, 32, 97, 32, 50, 53, 54], [116, 101, 108, 108, 32, 101], [115, 116, 111, 112, 32, 49], [115, 101, 116, 32, 98, 32, 48, 55], [106, 117, 109, 112, 32, 97], []]
theorem odd_ok : ∀ o ∈ odd10, asc o ∧ 10 ∉ o ∧ o.length ≤ 14 := by unfold asc; decide
theorem lline_ok {n L R : Nat} {fs : Fs} {t : Tx} {Φ : T → Od.Env → Prop} {Ψ : Exn → Od.Env → Prop} (hb : Bx n fs) (hn : 4 ≤ n) (ht : Lq L R t) (hL : L ≤ 200000) (hR : R ≤ 200000) (q : ∀ (u : Tx) fs', Lq (L + R + 20) (R + 14) u → Bx (n - 4) fs' → Φ (.sh (.str u)) [some (.rcd fs'), none]) : satO (f__law_line_spelt [T.rcd fs, .sh (.str t)]) Φ Ψ := by
  have htl := ht.l
  have htT := ht.tok (by omega)
  have hcnt := htT.cnt 10
  simp only [f__law_line_spelt, B__law_line_spelt]
  array_mem_dec
  generalize hA : sSetV 2 _ = A
  refine ⟨rfl, seq_cut (fun ρ => ∃ (w : Int) (fs : Fs), 0 ≤ w ∧ w < 6 ∧ Bx (n - 1) fs ∧ ρ = [some (T.rcd fs), some (T.sh (.str t)), some (T.sh (.int w)), none, none, none, none, none, none, none, none]) ?_ ?_⟩
  · subst hA
    sizeOf_list_dec
    refine ⟨rfl, take_ok hb (by omega) (by omega) (by omega) fun w fs w0 w1 hb => ?_⟩
    sizeOf_list_dec
    exact ⟨w, fs, w0, w1, hb, rfl⟩
  rintro ρ ⟨w, fs, w0, w1, hb, rfl⟩
  generalize hA : sSetV 3 _ = A
  refine seq_cut (fun ρ => ρ = [some (T.rcd fs), some (T.sh (.str t)), some (T.sh (.int w)), some (T.sh (.lst (odd10.map .str))), none, none, none, none, none, none, none]) ?_ ?_
  · subst hA
    sizeOf_list_dec
    exact ⟨by simp, rfl⟩
  rintro ρ rfl
  generalize hA : sSetV 4 _ = A
  refine seq_cut (fun ρ => ∃ (o : Tx) (fs : Fs), (asc o ∧ 10 ∉ o ∧ o.length ≤ 14) ∧ Bx (n - 2) fs ∧ ρ = [some (T.rcd fs), some (T.sh (.str t)), some (T.sh (.int w)), some (T.sh (.lst (odd10.map .str))), some (T.sh (.str o)), none, none, none, none, none, none]) ?_ ?_
  · subst hA
    sizeOf_list_dec
    refine ⟨rfl, take_ok hb (by omega) (by omega) (by omega) fun v fs v0 v1 hb => ?_⟩
    sizeOf_list_dec
    refine all_at v0 (by show v < 10; exact v1) (P := fun x => ∃ o ∈ odd10, x = .str o) (fun x hx => by obtain ⟨o, ho, rfl⟩ := List.mem_map.mp hx; exact ⟨o, ho, rfl⟩) fun x ⟨o, ho, hx⟩ => ?_
    subst hx
    exact ⟨o, fs, odd_ok o ho, hb.mono (by omega), rfl⟩
  rintro ρ ⟨o, fs, ho, hb, rfl⟩
  generalize hA : sSetV 5 _ = A
  refine seq_cut (fun ρ => ρ = [some (T.rcd fs), some (T.sh (.str t)), some (T.sh (.int w)), some (T.sh (.lst (odd10.map .str))), some (T.sh (.str o)), some (T.sh (.lst ((spl 10 t).map .str))), none, none, none, none, none]) ?_ ?_
  · subst hA
    sizeOf_list_dec
    rw [splitL_eq]
    exact ⟨⟨by simp, by omega⟩, rfl⟩
  rintro ρ rfl
  generalize hA : sSetV 6 _ = A
  refine seq_cut (fun ρ => ∃ (k : Nat) (fs : Fs), k < (spl 10 t).length ∧ Bx (n - 3) fs ∧ ρ = [some (T.rcd fs), some (T.sh (.str t)), some (T.sh (.int w)), some (T.sh (.lst (odd10.map .str))), some (T.sh (.str o)), some (T.sh (.lst ((spl 10 t).map .str))), some (T.sh (.int (k : Nat))), none, none, none, none]) ?_ ?_
  · subst hA
    have hne : 0 < (spl 10 t).length := List.length_pos_iff.mpr (spl_ne 10 t)
    sizeOf_list_dec
    rw [List.length_map]
    refine ⟨rfl, take_ok hb (by omega) (by omega) (by omega) fun v fs v0 v1 hb => ?_⟩
    sizeOf_list_dec
    obtain ⟨v, rfl⟩ := Int.eq_ofNat_of_zero_le v0
    exact ⟨v, fs, by omega, hb.mono (by omega), rfl⟩
  rintro ρ ⟨k, fs, hk, hb, rfl⟩
  sizeOf_list_dec
  obtain ⟨T0, hT0⟩ : ∃ T0, T0 = spl 10 t := ⟨_, rfl⟩
  have hTw : Rws (R + 14) (L + 1) T0 := by
    rw [hT0]
    exact ⟨fun p hp => ⟨fun x hx => ht.a x (mem_spl 10 t p hp x hx), spl_free 10 t p hp, by have := ht.r p hp; omega⟩, by rw [spl_len]; omega⟩
  rw [← hT0] at hk hcnt ⊢
  have e1 : cutD (T0.map D.str) none (some (k : Int)) = (T0.take k).map .str := by rw [cutD_take, List.map_take]
  have e2 : cutD (T0.map D.str) (some (k : Int)) (some ((k : Int) + 1)) = ((T0.take (k + 1)).drop k).map .str := by
    rw [show (k : Int) + 1 = ((k + 1 : Nat) : Int) by omega, cutD_mid _ k (k + 1) (by omega), List.map_drop, List.map_take]
  have e3 : cutD (T0.map D.str) (some ((k : Int) + 1)) none = (T0.drop (k + 1)).map .str := by
    rw [show (k : Int) + 1 = ((k + 1 : Nat) : Int) by omega, cutD_drop, List.map_drop]
  have e4 : ∀ B : List Tx, cutD (B.map D.str) none (some 1) = (B.take 1).map .str := fun B => by rw [List.map_take]; exact cutD_take _ 1
  have e5 : ∀ B : List Tx, cutD (B.map D.str) (some 1) none = (B.drop 1).map .str := fun B => by rw [List.map_drop]; exact cutD_drop _ 1
  rw [e1, e2, e3, e4, e5]
  have hH1 : ((T0.take (k + 1)).drop k) = [T0[k]] := by
    rw [List.drop_take, show k + 1 - k = 1 by omega, List.drop_eq_getElem_cons hk]; rfl
  have hcat : T0.take k ++ (T0.take (k + 1)).drop k ++ T0.drop (k + 1) = T0 := by
    rw [hH1, List.append_assoc, List.singleton_append, ← List.drop_eq_getElem_cons hk, List.take_append_drop]
  have hsplit : ∀ xs : List Tx, (xs.map List.length).sum + xs.length = (xs.map fun p => p.length + 1).sum := fun xs => by
    induction xs with
    | nil => rfl
    | cons x xs ih => simp only [List.map_cons, List.sum_cons, List.length_cons]; omega
  have hw := hTw.w
  rw [← hcat, List.map_append, List.map_append, List.sum_append, List.sum_append, List.length_append, List.length_append] at hw
  have hmA : ∀ p ∈ T0.take k, p ∈ T0 := fun p hp => List.mem_of_mem_take hp
  have hmH : ∀ p ∈ (T0.take (k + 1)).drop k, p ∈ T0 := fun p hp => List.mem_of_mem_take (List.mem_of_mem_drop hp)
  have hmB : ∀ p ∈ T0.drop (k + 1), p ∈ T0 := fun p hp => List.mem_of_mem_drop hp
  have hHw : (((T0.take (k + 1)).drop k).map List.length).sum + ((T0.take (k + 1)).drop k).length ≤ R + 1 := by
    rw [hH1]
    have : T0[k].length ≤ R := ht.r _ (by rw [← hT0]; exact List.getElem_mem hk)
    simp only [List.map_cons, List.map_nil, List.sum_cons, List.sum_nil, List.length_singleton]; omega
  generalize T0.take k = A at hw hmA ⊢
  generalize (T0.take (k + 1)).drop k = H at hw hmH hHw ⊢
  generalize T0.drop (k + 1) = B at hw hmB ⊢
  have hAw : Rws (R + 14) ((A.map List.length).sum + A.length) A := ⟨fun p hp => hTw.a p (hmA p hp), Nat.le_refl _⟩
  have hHw2 : Rws (R + 14) ((H.map List.length).sum + H.length) H := ⟨fun p hp => hTw.a p (hmH p hp), Nat.le_refl _⟩
  have hBw : Rws (R + 14) ((B.map List.length).sum + B.length) B := ⟨fun p hp => hTw.a p (hmB p hp), Nat.le_refl _⟩
  have hB1 : Rws (R + 14) (((B.take 1).map List.length).sum + (B.take 1).length) (B.take 1) := ⟨fun p hp => hTw.a p (hmB p (List.mem_of_mem_take hp)), Nat.le_refl _⟩
  have hB2 : Rws (R + 14) (((B.drop 1).map List.length).sum + (B.drop 1).length) (B.drop 1) := ⟨fun p hp => hTw.a p (hmB p (List.mem_of_mem_drop hp)), Nat.le_refl _⟩
  have hBs : ((B.take 1).map List.length).sum + (B.take 1).length + (((B.drop 1).map List.length).sum + (B.drop 1).length) = (B.map List.length).sum + B.length := by
    conv => rhs; rw [← List.take_append_drop 1 B]
    rw [List.map_append, List.sum_append, List.length_append]; omega
  have hOw : Rws (R + 14) 15 [o] := ⟨fun p hp => by rw [List.mem_singleton.mp hp]; exact ⟨ho.1, ho.2.1, by omega⟩, by simp; omega⟩
  have hlB : (B.take 1).length + (B.drop 1).length = B.length := by rw [List.length_take, List.length_drop]; omega
  repeat (refine And.intro (by first | rfl | (simp only [List.length_append, List.length_singleton, List.length_cons, List.length_nil, List.length_map]; omega) | (simp; omega)) ?_)
  have one : D.str o = D.str o := rfl
  have hO : [D.str o] = [o].map D.str := rfl
  rw [hO]
  simp only [← List.map_append]
  have key : ∀ ts : List Tx, Rws (R + 14) (L + R + 20) ts → ex (mJoin (.str [10]) [.lst (ts.map .str)]) fun r => Φ (T.sh r) [some (T.rcd fs), none] := fun ts h => by
    show ex ((allStrs (ts.map .str)).bind _) _
    rw [allStrs_map]
    show ex (if _ then _ else _) _
    rw [if_pos]
    · exact q _ fs h.lq (hb.mono (by omega))
    · have := h.w
      simp only [List.length_singleton, Nat.mul_one]
      omega
  have fin : ∀ x ∈ [D.lst ((A ++ B).map .str), D.lst ((A ++ H ++ H ++ B).map .str), D.lst ((A ++ B.take 1 ++ H ++ B.drop 1).map .str), D.lst ((A ++ B ++ H).map .str), D.lst ((A ++ [o] ++ H ++ B).map .str), D.lst ((A ++ [o] ++ B).map .str)], ∃ ts, x = .lst (ts.map .str) ∧ Rws (R + 14) (L + R + 20) ts := by
    intro x hx
    simp only [List.mem_cons, List.not_mem_nil, or_false] at hx
    rcases hx with rfl | rfl | rfl | rfl | rfl | rfl
    · exact ⟨_, rfl, ⟨(hAw.app hBw).a, by have := (hAw.app hBw).w; omega⟩⟩
    · exact ⟨_, rfl, ⟨(((hAw.app hHw2).app hHw2).app hBw).a, by have := (((hAw.app hHw2).app hHw2).app hBw).w; omega⟩⟩
    · exact ⟨_, rfl, ⟨(((hAw.app hB1).app hHw2).app hB2).a, by have := (((hAw.app hB1).app hHw2).app hB2).w; omega⟩⟩
    · exact ⟨_, rfl, ⟨((hAw.app hBw).app hHw2).a, by have := ((hAw.app hBw).app hHw2).w; omega⟩⟩
    · exact ⟨_, rfl, ⟨(((hAw.app hOw).app hHw2).app hBw).a, by have := (((hAw.app hOw).app hHw2).app hBw).w; omega⟩⟩
    · exact ⟨_, rfl, ⟨((hAw.app hOw).app hBw).a, by have := ((hAw.app hOw).app hBw).w; omega⟩⟩
  refine all_at (P := fun x => ∃ ts, x = .lst (ts.map .str) ∧ Rws (R + 14) (L + R + 20) ts) w0 (by show w < 6; exact w1) fin (fun x hx => ?_)
  obtain ⟨ts, rfl, h⟩ := hx
  exact key ts h
theorem allBls_rep : ∀ k : Nat, allBls (List.replicate k (.bl true)) = some (List.replicate k true)
  | 0 => rfl
  | k + 1 => by rw [List.replicate_succ, List.replicate_succ]; simp [allBls, allBls_rep k]
theorem fAll_rep {k : Nat} {Φ : D → Prop} : ex (fAll [.lst (List.replicate k (.bl true))]) Φ = Φ (.bl true) := by
  have : fAll [.lst (List.replicate k (.bl true))] = some (.bl true) := by
    show Option.map _ (allBls _) = _
    rw [allBls_rep]
    simp
  rw [this]; rfl
theorem zipD_self_get {ds : List D} {i : Nat} {x : D} (h : (zipD ds ds)[i]? = some x) : ∃ d ∈ ds, x = .tup [d, d] := by
  unfold zipD at h
  rw [List.getElem?_map] at h
  obtain ⟨p, hp, rfl⟩ := Option.map_eq_some_iff.mp h
  obtain ⟨h1, h2⟩ := List.getElem?_zip_eq_some.mp hp
  rw [h1] at h2
  have := Option.some.inj h2
  exact ⟨p.1, List.mem_of_getElem? h1, by rw [← this]⟩
theorem zipD_self_len (ds : List D) : (zipD ds ds).length = ds.length := by simp [zipD]
theorem same_refl : ∀ (n : Nat) (d : D), gdD d = true → d.dep < n → szD d = true → ∀ {Φ : T → Od.Env → Prop} {Ψ : Exn → Od.Env → Prop}, Φ (.sh (.bl true)) [none, none] → satO (r__law_same n [T.sh d, .sh d]) Φ Ψ
  | 0, d, _, h, _, Φ, Ψ, _ => by omega
  | n + 1, d, hg, hd, hz, Φ, Ψ, q => by
    have loop : ∀ (x : D) (ds : List D) {K : T × Od.Env → Prop} {Ψ' : Exn → Od.Env → Prop}, (∀ e ∈ ds, gdD e = true) → (∀ e ∈ ds, e.dep < n) → (∀ e ∈ ds, szD e = true) → ds.length ≤ 1000000 → K (.lst (List.replicate ds.length (.bl true)), [some (T.sh x), some (T.sh x), none, none]) →
        sat (cmpL [2, 3] (gTp [gNm 2, gNm 3]) bTrue (eFz (eCall (r__law_same n) [Arg.v (eV 2), Arg.v (eV 3)])) (zipD ds ds) [] [some (T.sh x), some (T.sh x), none, none]) K Ψ' := by
      intro x ds K Ψ' h1 h2 h3 h4 k
      refine cmp_i (fun i acc ρ => ρ = [some (T.sh x), some (T.sh x), none, none] ∧ acc = List.replicate i (.bl true)) (by rw [zipD_self_len]; exact h4) ⟨rfl, rfl⟩ ?_ ?_
      · rintro i y acc ρ hy hi ⟨rfl, rfl⟩
        obtain ⟨e, he, rfl⟩ := zipD_self_get hy
        sizeOf_list_dec
        refine ⟨rfl, same_refl n e (h1 e he) (h2 e he) (h3 e he) ?_⟩
        sizeOf_list_dec
        rw [List.replicate_succ']
      · rintro acc ρ hl ⟨rfl, rfl⟩
        rw [zipD_self_len]
        exact k
    unfold r__law_same
    unfold B__law_same
    cases d with
    | non =>
      sizeOf_list_dec
      exact ⟨rfl, q⟩
    | bl b =>
      sizeOf_list_dec
      exact ⟨rfl, q⟩
    | int i =>
      sizeOf_list_dec
      exact ⟨rfl, q⟩
    | str s =>
      sizeOf_list_dec
      exact ⟨rfl, q⟩
    | tup ds =>
      unfold gdD at hg
      unfold D.dep at hd
      unfold szD at hz
      simp only [Bool.and_eq_true, decide_eq_true_eq] at hz
      sizeOf_list_dec
      refine ⟨rfl, fun z => absurd trivial z, fun z => absurd trivial z, loop _ ds (gdL_mem hg) (fun e he => by have := depL_mem e he; omega) (szL_mem hz.2) hz.1 ?_, fun z => absurd trivial z⟩
      sizeOf_list_dec
      rw [fAll_rep]
      exact q
    | lst ds =>
      unfold gdD at hg
      unfold D.dep at hd
      unfold szD at hz
      simp only [Bool.and_eq_true, decide_eq_true_eq] at hz
      sizeOf_list_dec
      refine ⟨rfl, fun z => absurd trivial z, fun z => absurd trivial z, loop _ ds (gdL_mem hg) (fun e he => by have := depL_mem e he; omega) (szL_mem hz.2) hz.1 ?_, fun z => absurd trivial z⟩
      sizeOf_list_dec
      rw [fAll_rep]
      exact q
    | rol ds => cases hg
    | dct k v => cases hg
    | exn c k v => cases hg
    | obj c k v => cases hg
    | fn x => cases hg
structure Gd (d : D) : Prop where
  g : gdD d = true
  h : d.dep < 70
  z : szD d = true
theorem same_ok {d : D} (hg : Gd d) {Φ : T → Od.Env → Prop} {Ψ : Exn → Od.Env → Prop} (q : Φ (.sh (.bl true)) [none, none]) : satO (f__law_same [T.sh d, .sh d]) Φ Ψ := same_refl 70 d hg.g hg.h hg.z q
/-- data that _law_same reads: how deep at most -/
def Gk (k : Nat) (d : D) : Prop := gdD d = true ∧ d.dep ≤ k ∧ szD d = true
def GkL (k : Nat) (ds : List D) : Prop := ∀ d ∈ ds, Gk k d
theorem Gk.gd {k : Nat} {d : D} (h : Gk k d) (hk : k < 70) : Gd d := ⟨h.1, by have := h.2.1; omega, h.2.2⟩
theorem Gk.mono {j k : Nat} {d : D} (h : Gk j d) (hk : j ≤ k) : Gk k d := ⟨h.1, by have := h.2.1; omega, h.2.2⟩
theorem gk_str (k : Nat) (s : Tx) : Gk k (.str s) := ⟨rfl, Nat.zero_le _, rfl⟩
theorem gk_int (k : Nat) (s : Int) : Gk k (.int s) := ⟨rfl, Nat.zero_le _, rfl⟩
theorem gk_non (k : Nat) : Gk k .non := ⟨rfl, Nat.zero_le _, rfl⟩
theorem gkL_nil (k : Nat) : GkL k [] := fun _ h => by cases h
theorem gkL_cons {k : Nat} {d : D} {ds : List D} (h : Gk k d) (t : GkL k ds) : GkL k (d :: ds) := fun x hx => by
  rcases List.mem_cons.mp hx with rfl | hx
  · exact h
  · exact t x hx
theorem gkL_app {k : Nat} {ds es : List D} (h : GkL k ds) (t : GkL k es) : GkL k (ds ++ es) := fun x hx => by
  rcases List.mem_append.mp hx with hx | hx
  · exact h x hx
  · exact t x hx
theorem gkL_map {α : Type} {k : Nat} {xs : List α} {f : α → D} (h : ∀ x ∈ xs, Gk k (f x)) : GkL k (xs.map f) := fun x hx => by
  obtain ⟨y, hy, rfl⟩ := List.mem_map.mp hx
  exact h y hy
theorem gkL_g : ∀ {k : Nat} {ds : List D}, GkL k ds → gdL ds = true ∧ D.depL ds ≤ k ∧ szL ds = true
  | k, [], _ => ⟨rfl, Nat.zero_le _, rfl⟩
  | k, d :: ds, h => by
    have h1 := h d List.mem_cons_self
    have h2 := gkL_g (ds := ds) fun x hx => h x (List.mem_cons_of_mem d hx)
    unfold gdL D.depL szL
    refine ⟨by rw [h1.1, h2.1]; rfl, ?_, by rw [h1.2.2, h2.2.2]; rfl⟩
    have := h1.2.1; have := h2.2.1; omega
theorem gk_lst {k : Nat} {ds : List D} (h : GkL k ds) (hl : ds.length ≤ 1000000) : Gk (k + 1) (.lst ds) := by
  obtain ⟨a, b, c⟩ := gkL_g h
  refine ⟨by unfold gdD; exact a, by unfold D.dep; omega, by unfold szD; rw [c]; simp; exact hl⟩
theorem gk_tup {k : Nat} {ds : List D} (h : GkL k ds) (hl : ds.length ≤ 1000000) : Gk (k + 1) (.tup ds) := by
  obtain ⟨a, b, c⟩ := gkL_g h
  refine ⟨by unfold gdD; exact a, by unfold D.dep; omega, by unfold szD; rw [c]; simp; exact hl⟩
/-! what is read can be compared -/
theorem readR_fine {known : List Tx} : ∀ (ts : List Tx) (st st' : Rg) (i : Nat), (∀ b ∈ st.rows, b.fine) → st.rows.length ≤ 200 → readR known ts st i = .ok st' → (∀ b ∈ st'.rows, b.fine) ∧ st'.rows.length ≤ 200
  | [], st, st', i, h, hl, e => by cases e; exact ⟨h, hl⟩
  | t :: ts, st, st', i, h, hl, e => by
    unfold readR at e
    split at e
    · exact readR_fine ts st st' (i + 1) h hl e
    · cases e2 : takeR known st (spl 32 t) with
      | none => rw [e2] at e; cases e
      | some s2 =>
        rw [e2] at e
        simp only [] at e
        refine readR_fine ts s2 st' (i + 1) ?_ ?_ e
        · cases e3 : labOf (spl 32 t) with
          | some n => rw [(takeR_lab e3 e2).1]; exact h
          | none =>
            obtain ⟨b, h1, h2, h3, rfl⟩ := takeR_row e3 e2
            intro x hx
            rcases List.mem_append.mp hx with hx | hx
            · exact h x hx
            · rw [List.mem_singleton.mp hx]; exact rowOf_fine h1
        · cases e3 : labOf (spl 32 t) with
          | some n => rw [(takeR_lab e3 e2).1]; exact hl
          | none =>
            obtain ⟨b, h1, h2, h3, rfl⟩ := takeR_row e3 e2
            show (st.rows ++ [b]).length ≤ 200
            rw [List.length_append, List.length_singleton]; omega
theorem gk_scal {d : D} (h : scalD d = true) : Gk 0 d := by cases d <;> first | exact ⟨rfl, Nat.zero_le _, rfl⟩ | cases h
theorem progOf_gk {st : Rg} {b : SR} (h : b.fine) : Gk 1 (progOf st b) := by
  obtain ⟨h3, w, qs, hps, _, hsc⟩ := h
  have hp : GkL 0 b.ps := fun d hd => by
    rw [hps] at hd
    rcases List.mem_cons.mp hd with rfl | hd
    · exact gk_str 0 _
    · exact gk_scal (hsc d hd)
  unfold progOf
  split
  · exact gk_tup (gkL_app hp (gkL_cons (gk_int 0 _) (gkL_nil 0))) (by rw [List.length_append]; simp; omega)
  · exact gk_tup hp (by omega)
theorem resD_is (t : Tx) : ∃ a b, resD t = .tup [a, b] := by
  unfold resD
  split
  · exact ⟨_, _, rfl⟩
  · exact ⟨_, _, rfl⟩
theorem resD_gd (t : Tx) : Gd (resD t) := by
  unfold resD
  split
  · rename_i st e
    obtain ⟨hf, hl⟩ := readR_fine _ _ _ 0 (fun _ h => by cases h) (by decide) e
    exact (gk_tup (k := 2) (gkL_cons (gk_non 2) (gkL_cons (gk_lst (gkL_map fun b hb => progOf_gk (hf b hb)) (by rw [List.length_map]; omega)) (gkL_nil 2))) (by simp)).gd (by decide)
  · exact (gk_tup (k := 0) (gkL_cons (gk_int 0 _) (gkL_cons (gk_non 0) (gkL_nil 0))) (by simp)).gd (by decide)
theorem prow_gk (r : PRow) : Gk 1 r.d := by
  cases r with
  | set s n => exact gk_tup (k := 0) (gkL_cons (gk_str 0 _) (gkL_cons (gk_str 0 _) (gkL_cons (gk_int 0 _) (gkL_nil 0)))) (by simp)
  | two w s t => exact gk_tup (k := 0) (gkL_cons (gk_str 0 _) (gkL_cons (gk_str 0 _) (gkL_cons (gk_str 0 _) (gkL_nil 0)))) (by simp)
  | one w s => exact gk_tup (k := 0) (gkL_cons (gk_str 0 _) (gkL_cons (gk_str 0 _) (gkL_nil 0))) (by simp)
  | stop => exact gk_tup (k := 0) (gkL_cons (gk_str 0 _) (gkL_nil 0)) (by simp)
  | jump a => exact gk_tup (k := 0) (gkL_cons (gk_str 0 _) (gkL_cons (gk_int 0 _) (gkL_nil 0))) (by simp)
  | zero s a => exact gk_tup (k := 0) (gkL_cons (gk_str 0 _) (gkL_cons (gk_str 0 _) (gkL_cons (gk_int 0 _) (gkL_nil 0)))) (by simp)
theorem prog_gd {rs : List PRow} (hl : rs.length ≤ 1000) : Gd (progD rs) := (gk_lst (gkL_map fun r _ => prow_gk r) (by rw [List.length_map]; omega)).gd (by decide)
def rb81 : Nat → Nat
  | 0 => 27
  | k + 1 => 2 * rb81 k + 14
def lb81 : Nat → Nat
  | 0 => 5600
  | k + 1 => lb81 k + rb81 k + 20
theorem rb_le (k : Nat) : rb81 0 ≤ rb81 k := by
  induction k with
  | zero => exact Nat.le_refl _
  | succ k ih => show _ ≤ 2 * rb81 k + 14; omega
theorem lb_le (k : Nat) : lb81 0 ≤ lb81 k := by
  induction k with
  | zero => exact Nat.le_refl _
  | succ k ih => show _ ≤ lb81 k + rb81 k + 20; omega
theorem rb_top : ∀ k ≤ 10, rb81 k ≤ 100000 ∧ lb81 k ≤ 150000 := by decide
theorem law_fact (ns : List Int) (hl : ns.length ≤ 63) : ∃ os, f_law [.sh (.rol (ns.map .int))] = .ok (.sh (.bl true)) os := by
  have main : satO (f_law [.sh (.rol (ns.map .int))]) (fun t _ => t = .sh (.bl true)) (fun _ _ => False) := by
    simp only [f_law, B_law]
    array_mem_dec
    generalize hA : sSet 1 _ = A
    refine ⟨rfl, seq_cut (fun ρ => ∃ fs, Bx 900000000 fs ∧ ρ = [some (T.sh (.rol (ns.map .int))), some (T.rcd fs), none, none, none, none, none, none, none, none, none, none]) ?_ ?_⟩
    · subst hA
      sizeOf_list_dec
      refine ⟨rfl, begin_ok hl fun fs hb => ?_⟩
      sizeOf_list_dec
      exact ⟨fs, hb, rfl⟩
    rintro ρ ⟨fs, hb, rfl⟩
    sizeOf_list_dec
    obtain ⟨xs, hxs⟩ : ∃ xs, xs = rngD 0 (2 : Int).toNat := ⟨_, rfl⟩
    have hxl : xs.length = 2 := by rw [hxs, rngD_len]; rfl
    rw [← hxs]
    refine ⟨by decide, ?_⟩
    refine for_inv (fun i ρ => ∃ fs, Bx (900000000 - 10000 * i) fs ∧ ρ = [some (T.sh (.rol (ns.map .int))), some (T.rcd fs), none, none, none, none, none, none, none, none, none, none]) ⟨fs, hb.mono (by omega), rfl⟩ ?_ ?_
    · rintro i x ρ hx ⟨fs, hb, rfl⟩
      have hp : i < 2 := by rw [← hxl]; exact (List.getElem?_eq_some_iff.mp hx).1
      array_mem_dec
      generalize hA : sSetV 3 _ = A
      refine seq_cut (fun ρ => ∃ (b : Bool) (fs : Fs), Bx (900000000 - 10000 * i - 1) fs ∧ ρ = [some (T.sh (.rol (ns.map .int))), some (T.rcd fs), some (T.sh x), some (T.sh (.bl b)), none, none, none, none, none, none, none, none]) ?_ ?_
      · subst hA
        sizeOf_list_dec
        refine ⟨rfl, take_ok hb (by omega) (by omega) (by omega) fun w fs w0 w1 hb => ?_⟩
        sizeOf_list_dec
        exact ⟨_, fs, hb.mono (by omega), rfl⟩
      rintro ρ ⟨b, fs, hb, rfl⟩
      generalize hA : sSetV 4 _ = A
      refine seq_cut (fun ρ => ∃ (rs : List PRow) (fs : Fs), rs.length ≤ 40 ∧ (∀ r ∈ rs, r.ok rs.length) ∧ Bx (900000000 - 10000 * i - 500) fs ∧ ρ = [some (T.sh (.rol (ns.map .int))), some (T.rcd fs), some (T.sh x), some (T.sh (.bl b)), some (T.sh (progD rs)), none, none, none, none, none, none, none]) ?_ ?_
      · subst hA
        sizeOf_list_dec
        refine ⟨rfl, rfl, lmany_ok hb (by omega) fun m fs hm hb => ?_⟩
        sizeOf_list_dec
        refine lprog_ok hb (by omega) (by omega) fun rs fs hrl hr hb => ?_
        sizeOf_list_dec
        refine ⟨rs, fs, by omega, by rw [hrl]; exact hr, hb.mono (by omega), rfl⟩
      rintro ρ ⟨rs, fs, hrl, hr, hb, rfl⟩
      generalize hA : sSetV 5 _ = A
      refine seq_cut (fun ρ => ∃ (lab : Nat → Tx) (its : List Itm) (fs : Fs), Tel lab rs.length its ∧ rowsI its = rs ∧ its.length ≤ 200 ∧ Bx (900000000 - 10000 * i - 3000) fs ∧ ρ = [some (T.sh (.rol (ns.map .int))), some (T.rcd fs), some (T.sh x), some (T.sh (.bl b)), some (T.sh (progD rs)), some (T.sh (.str (txI lab its))), none, none, none, none, none, none]) ?_ ?_
      · subst hA
        sizeOf_list_dec
        refine ⟨rfl, lsheet_ok hb hr hrl (by omega) fun lab its fs hT hi hil hb => ?_⟩
        sizeOf_list_dec
        exact ⟨lab, its, fs, hT, hi, hil, hb.mono (by omega), rfl⟩
      rintro ρ ⟨lab, its, fs, hT, hi, hil, hb, rfl⟩
      have hq0 := txI_lq hT hil
      generalize hA : sSet 6 _ = A
      refine seq_cut (fun ρ => ρ = [some (T.sh (.rol (ns.map .int))), some (T.rcd fs), some (T.sh x), some (T.sh (.bl b)), some (T.sh (progD rs)), some (T.sh (.str (txI lab its))), some (T.lst [.str (txI lab its)]), none, none, none, none, none]) ?_ ?_
      · subst hA
        sizeOf_list_dec
        simp
      rintro ρ rfl
      generalize hA : sFor (gNm 7) _ _ = A
      refine seq_cut (fun ρ => ∃ (us : List Tx) (fs : Fs), (∀ u ∈ us, Tok u) ∧ us.length ≤ 11 ∧ Bx (900000000 - 10000 * i - 3100) fs ∧ ρ = [some (T.sh (.rol (ns.map .int))), some (T.rcd fs), some (T.sh x), some (T.sh (.bl b)), some (T.sh (progD rs)), some (T.sh (.str (txI lab its))), some (T.lst (us.map .str)), none, none, none, none, none]) ?_ ?_
      · subst hA
        sizeOf_list_dec
        obtain ⟨ys, hys⟩ : ∃ ys, ys = rngD 0 (10 : Int).toNat := ⟨_, rfl⟩
        have hyl : ys.length = 10 := by rw [hys, rngD_len]; rfl
        rw [← hys]
        refine ⟨by decide, ?_⟩
        refine for_inv (fun j ρ => ∃ (us : List Tx) (v : Tx) (fs : Fs), (∀ u ∈ us, Tok u) ∧ us.length = j ∧ Lq (lb81 j) (rb81 j) v ∧ Bx (900000000 - 10000 * i - 3000 - 6 * j) fs ∧ ρ = [some (T.sh (.rol (ns.map .int))), some (T.rcd fs), some (T.sh x), some (T.sh (.bl b)), some (T.sh (progD rs)), some (T.sh (.str (txI lab its))), some (T.lst ((us ++ [v]).map .str)), none, none, none, none, none]) ⟨[], txI lab its, fs, fun _ h => (by cases h), rfl, hq0, hb, rfl⟩ ?_ ?_
        · rintro j y ρ hy ⟨us, v, fs, hu, hul, hv, hb, rfl⟩
          have hjp : j < 10 := by rw [← hyl]; exact (List.getElem?_eq_some_iff.mp hy).1
          have hbd := rb_top j (by omega)
          array_mem_dec
          generalize hA : sSetV 8 _ = A
          refine seq_cut (fun ρ => ∃ (a : Tx) (fs : Fs), Lq (lb81 j) (rb81 j) a ∧ Bx (900000000 - 10000 * i - 3000 - 6 * j - 1) fs ∧ ρ = [some (T.sh (.rol (ns.map .int))), some (T.rcd fs), some (T.sh x), some (T.sh (.bl b)), some (T.sh (progD rs)), some (T.sh (.str (txI lab its))), some (T.lst ((us ++ [v]).map .str)), some (T.sh y), some (T.sh (.str a)), none, none, none]) ?_ ?_
          · subst hA
            sizeOf_list_dec
            rw [List.map_append, List.map_cons, List.map_nil, atI_lst, ex_some]
            refine ⟨by simp, rfl, take_ok hb (by omega) (by omega) (by omega) fun w fs w0 w1 hb => ?_⟩
            sizeOf_list_dec
            refine two_at w0 w1 ⟨_, fs, hq0.mono (lb_le j) (rb_le j), hb.mono (by omega), ?_⟩ ⟨_, fs, hv, hb.mono (by omega), ?_⟩
            · rfl
            · rfl
          rintro ρ ⟨a, fs, ha, hb, rfl⟩
          have hvt : Tok v := hv.tok (by omega)
          have hus : ∀ u ∈ us ++ [v], Tok u := fun u hu' => by
            rcases List.mem_append.mp hu' with z | z
            · exact hu u z
            · rw [List.mem_singleton.mp z]; exact hvt
          have hll : ((us ++ [v]).map D.str).length < 1000000 := by rw [List.length_map, List.length_append, hul]; simp; omega
          sizeOf_list_dec
          refine ⟨rfl, take_ok hb (by omega) (by omega) (by omega) fun w fs w0 w1 hb => ?_⟩
          sizeOf_list_dec
          refine ⟨fun _ => ⟨rfl, lspelt_ok hb (by omega) ha (by omega) fun u fs hq hb => ?_⟩, fun _ => ⟨rfl, lline_ok hb (by omega) ha (by omega) (by omega) fun u fs hq hb => ?_⟩⟩
          · sizeOf_list_dec
            refine ⟨hll, us ++ [v], u, fs, hus, by rw [List.length_append, hul]; rfl, hq.mono (show lb81 j + 10 ≤ lb81 j + rb81 j + 20 by omega) (show 2 * rb81 j + 10 ≤ 2 * rb81 j + 14 by omega), hb.mono (by omega), ?_⟩
            rw [List.map_append (l₁ := us ++ [v])]; rfl
          · sizeOf_list_dec
            refine ⟨hll, us ++ [v], u, fs, hus, by rw [List.length_append, hul]; rfl, hq.mono (show lb81 j + rb81 j + 20 ≤ lb81 j + rb81 j + 20 by omega) (show rb81 j + 14 ≤ 2 * rb81 j + 14 by omega), hb.mono (by omega), ?_⟩
            rw [List.map_append (l₁ := us ++ [v])]; rfl
        · rintro ρ ⟨us, v, fs, hu, hul, hv, hb, rfl⟩
          rw [hyl] at hul hv hb
          refine ⟨us ++ [v], fs, fun u hu' => ?_, by rw [List.length_append, hul]; simp, hb.mono (by omega), rfl⟩
          rcases List.mem_append.mp hu' with z | z
          · exact hu u z
          · rw [List.mem_singleton.mp z]; exact hv.tok (by have := rb_top 10 (by omega); omega)
      rintro ρ ⟨us, fs, hu, hul, hb, rfl⟩
      generalize hA : sFor (gNm 9) _ _ = A
      refine seq_cut (fun ρ => ρ = [some (T.sh (.rol (ns.map .int))), some (T.rcd fs), some (T.sh x), some (T.sh (.bl b)), some (T.sh (progD rs)), some (T.sh (.str (txI lab its))), some (T.sh (.lst (us.map .str))), none, none, none, none, none]) ?_ ?_
      · subst hA
        sizeOf_list_dec
        refine for_inv (fun j ρ => ρ = [some (T.sh (.rol (ns.map .int))), some (T.rcd fs), some (T.sh x), some (T.sh (.bl b)), some (T.sh (progD rs)), some (T.sh (.str (txI lab its))), some (T.sh (.lst (us.map .str))), none, none, none, none, none]) rfl ?_ ?_
        · rintro j y ρ hy rfl
          obtain ⟨u, hur, hum, rfl⟩ := strs_at hy
          have hut := hu u hum
          obtain ⟨ra, rb, hres⟩ := resD_is u
          sizeOf_list_dec
          refine ⟨rfl, lread_ok hut ?_⟩
          rw [hres]
          sizeOf_list_dec
          refine ⟨rfl, rfl, lref_ok hut ?_⟩
          rw [hres]
          sizeOf_list_dec
          have hg := resD_gd u
          rw [hres] at hg
          refine ⟨by simp, same_ok hg ?_⟩
          sizeOf_list_dec
        · rintro ρ rfl
          rfl
      rintro ρ rfl
      sizeOf_list_dec
      refine ⟨rfl, rfl, rpI_ok hT ?_⟩
      rw [hi]
      sizeOf_list_dec
      refine same_ok (prog_gd (by omega)) ?_
      sizeOf_list_dec
      exact ⟨fs, hb.mono (by omega), rfl⟩
    · rintro ρ ⟨fs, hb, rfl⟩
      sizeOf_list_dec
  obtain ⟨t, os, e, rfl⟩ := main.ex
  exact ⟨os, e⟩
end OdW

open PySem PySem.W PyProof.Rows
set_option maxHeartbeats 0 in
theorem PySem.Challenge.cw_oddlong_k81_sheets_spoilt_anywhere_holds : PySem.Challenge.rw_oddlong_k81_sheets_spoilt_anywhere.Holds := by
  w_on; o_law; k_head; (case hw => w_witness2)
  k_fill
  refine Od.walkG (l := PySem.Challenge.rw_oddlong_k81_sheets_spoilt_anywhere) (n := 63) (k := 72) (x := "_law_script") (CX := fun w => L2.CX PySem.Challenge.rw_oddlong_k81_sheets_spoilt_anywhere.prog w) (sp := fun w => Od.spLaw _) rfl (by decide) rfl ⟨⟨rfl, by decide, by decide⟩, rfl⟩ (fun w h Y => by first | exact PySem.W.kIn_of Y | exact PySem.W.km_in_of Y) ?F (fun _ _ a ns hl _ hS => ⟨a, ns, rfl, hS, hl, fun _ => rfl⟩) (fun _ _ _ _ _ ⟨_, _, _, _, _, _, _, _, _, _, _, _, h⟩ => h)
  case F =>
    intro w mg fa h KX G hmg
    refine' OdW.all_mk KX G hmg ?n_BadRow ?n_BadText ?n_NoForm ?n_NoName ?n_NoPlace ?n_NoTarget ?n_OddError ?n_TooFar ?n_TooFull ?xe_BadRow ?xt_BadRow ?xd_BadRow ?xe_BadText ?xt_BadText ?xd_BadText ?xe_NoForm ?xt_NoForm ?xd_NoForm ?xe_NoName ?xt_NoName ?xd_NoName ?xe_NoPlace ?xt_NoPlace ?xd_NoPlace ?xe_NoTarget ?xt_NoTarget ?xd_NoTarget ?xe_OddError ?xt_OddError ?xd_OddError ?xe_TooFar ?xt_TooFar ?xd_TooFar ?xe_TooFull ?xt_TooFull ?xd_TooFull ?xl_BadRow ?xs_BadRow ?xk_BadRow ?xg_BadRow ?xh_BadRow ?xc_BadRow ?xm_BadRow ?xv_BadRow ?xb_BadRow_BadRow ?xb_BadRow_BadText ?xb_BadRow_NoForm ?xb_BadRow_NoName ?xb_BadRow_NoPlace ?xb_BadRow_NoTarget ?xb_BadRow_OddError ?xb_BadRow_TooFar ?xb_BadRow_TooFull ?xf_BadRow_row ?xi_BadRow ?xj_BadRow ?xq_BadRow ?xw_BadRow ?xz_BadRow ?og_ ?ot_ ?os_ ?or_ ?oi_ ?n_FIGURES ?n_JUMPS ?gk_JUMPS ?n_LETTERS ?n_MOST_LETTERS ?n_MOST_NUMBER ?n_MOST_ROWS ?n_SPOTS ?gk_SPOTS ?on_Reading ?opg_Reading ?ohd_Reading ?opo_Reading ?osa_Reading ?ona_Reading_known ?ona_Reading_rows ?ona_Reading_places ?omk_Reading ?okp_Reading ?mm_Reading____init__ ?mf_Reading____init__ ?l_Reading____init__ ?q_Reading____init__ ?k_Reading____init__ ?mm_Reading__program ?mf_Reading__program ?l_Reading__program ?q_Reading__program ?k_Reading__program ?mm_Reading__take_row ?mf_Reading__take_row ?l_Reading__take_row ?q_Reading__take_row ?k_Reading__take_row ?m__law_begin ?l__law_begin ?q__law_begin ?k__law_begin ?m__law_take ?l__law_take ?q__law_take ?k__law_take ?m__law_program ?l__law_program ?q__law_program ?k__law_program ?m__law_word ?l__law_word ?q__law_word ?k__law_word ?m__law_sheet ?l__law_sheet ?q__law_sheet ?k__law_sheet ?m__law_many ?l__law_many ?q__law_many ?k__law_many ?m__law_is_figures ?l__law_is_figures ?q__law_is_figures ?k__law_is_figures ?m__law_is_name ?l__law_is_name ?q__law_is_name ?k__law_is_name ?m__law_row_told ?l__law_row_told ?q__law_row_told ?k__law_row_told ?m__law_read ?l__law_read ?q__law_read ?k__law_read ?m__law_same ?l__law_same ?q__law_same ?k__law_same ?m_is_name ?l_is_name ?q_is_name ?k_is_name ?m_label_in ?l_label_in ?q_label_in ?k_label_in ?m_labels_in ?l_labels_in ?q_labels_in ?k_labels_in ?m_is_number_told ?l_is_number_told ?q_is_number_told ?k_is_number_told ?m_row_with_spot ?l_row_with_spot ?q_row_with_spot ?k_row_with_spot ?m_row_of ?l_row_of ?q_row_of ?k_row_of ?m_read_program ?l_read_program ?q_read_program ?k_read_program ?m__law_signs ?l__law_signs ?q__law_signs ?k__law_signs ?m__law_spelt ?l__law_spelt ?q__law_spelt ?k__law_spelt ?m__law_line_spelt ?l__law_line_spelt ?q__law_line_spelt ?k__law_line_spelt ?m__law_refused ?l__law_refused ?q__law_refused ?k__law_refused ?m_law ?l_law ?q_law ?k_law ?z_ValueError ?z_all ?z_any ?z_bool ?z_divmod ?z_enumerate ?z_int ?z_isinstance ?z_len ?z_list ?z_max ?z_min ?z_range ?z_str ?z_tuple ?z_zip OdW.law_fact
    (case n_BadRow => k_is); (case n_BadText => k_is); (case n_NoForm => k_is); (case n_NoName => k_is); (case n_NoPlace => k_is); (case n_NoTarget => k_is); (case n_OddError => k_is); (case n_TooFar => k_is); (case n_TooFull => k_is); (case xe_BadRow => k_is); (case xt_BadRow => k_is); (case xd_BadRow => k_is); (case xe_BadText => k_is); (case xt_BadText => k_is); (case xd_BadText => k_is); (case xe_NoForm => k_is); (case xt_NoForm => k_is); (case xd_NoForm => k_is); (case xe_NoName => k_is); (case xt_NoName => k_is); (case xd_NoName => k_is); (case xe_NoPlace => k_is); (case xt_NoPlace => k_is); (case xd_NoPlace => k_is); (case xe_NoTarget => k_is); (case xt_NoTarget => k_is); (case xd_NoTarget => k_is); (case xe_OddError => k_is); (case xt_OddError => k_is); (case xd_OddError => k_is); (case xe_TooFar => k_is); (case xt_TooFar => k_is); (case xd_TooFar => k_is); (case xe_TooFull => k_is); (case xt_TooFull => k_is); (case xd_TooFull => k_is); (case xl_BadRow => k_is); (case xs_BadRow => k_is); (case xk_BadRow => k_is); (case xg_BadRow => k_is); (case xh_BadRow => k_is); (case xc_BadRow => k_is); (case xm_BadRow => k_is); (case xv_BadRow => k_is); (case xb_BadRow_BadRow => k_is); (case xb_BadRow_BadText => k_is); (case xb_BadRow_NoForm => k_is); (case xb_BadRow_NoName => k_is); (case xb_BadRow_NoPlace => k_is); (case xb_BadRow_NoTarget => k_is); (case xb_BadRow_OddError => k_is); (case xb_BadRow_TooFar => k_is); (case xb_BadRow_TooFull => k_is); (case xf_BadRow_row => k_is); (case xi_BadRow => k_is); (case xj_BadRow => k_is); (case xq_BadRow => k_is); (case xw_BadRow => k_is); (case xz_BadRow => k_is); (case og_ => k_is); (case ot_ => k_is); (case os_ => k_is); (case or_ => k_is); (case oi_ => k_is); (case n_FIGURES => k_is); (case n_JUMPS => k_is); (case gk_JUMPS => k_is); (case n_LETTERS => k_is); (case n_MOST_LETTERS => k_is); (case n_MOST_NUMBER => k_is); (case n_MOST_ROWS => k_is); (case n_SPOTS => k_is); (case gk_SPOTS => k_is); (case on_Reading => k_is); (case opg_Reading => k_is); (case ohd_Reading => k_is); (case opo_Reading => k_is); (case osa_Reading => k_is); (case ona_Reading_known => k_is); (case ona_Reading_rows => k_is); (case ona_Reading_places => k_is); (case omk_Reading => k_is); (case okp_Reading => k_is); (case mm_Reading____init__ => k_is); (case mf_Reading____init__ => k_is); (case l_Reading____init__ => k_is); (case q_Reading____init__ => k_is); (case k_Reading____init__ => k_is); (case mm_Reading__program => k_is); (case mf_Reading__program => k_is); (case l_Reading__program => k_is); (case q_Reading__program => k_is); (case k_Reading__program => k_is); (case mm_Reading__take_row => k_is); (case mf_Reading__take_row => k_is); (case l_Reading__take_row => k_is); (case q_Reading__take_row => k_is); (case k_Reading__take_row => k_is); (case m__law_begin => k_is); (case l__law_begin => k_is); (case q__law_begin => k_is); (case k__law_begin => k_is); (case m__law_take => k_is); (case l__law_take => k_is); (case q__law_take => k_is); (case k__law_take => k_is); (case m__law_program => k_is); (case l__law_program => k_is); (case q__law_program => k_is); (case k__law_program => k_is); (case m__law_word => k_is); (case l__law_word => k_is); (case q__law_word => k_is); (case k__law_word => k_is); (case m__law_sheet => k_is); (case l__law_sheet => k_is); (case q__law_sheet => k_is); (case k__law_sheet => k_is); (case m__law_many => k_is); (case l__law_many => k_is); (case q__law_many => k_is); (case k__law_many => k_is); (case m__law_is_figures => k_is); (case l__law_is_figures => k_is); (case q__law_is_figures => k_is); (case k__law_is_figures => k_is); (case m__law_is_name => k_is); (case l__law_is_name => k_is); (case q__law_is_name => k_is); (case k__law_is_name => k_is); (case m__law_row_told => k_is); (case l__law_row_told => k_is); (case q__law_row_told => k_is); (case k__law_row_told => k_is); (case m__law_read => k_is); (case l__law_read => k_is); (case q__law_read => k_is); (case k__law_read => k_is); (case m__law_same => k_is); (case l__law_same => k_is); (case q__law_same => k_is); (case k__law_same => k_is); (case m_is_name => k_is); (case l_is_name => k_is); (case q_is_name => k_is); (case k_is_name => k_is); (case m_label_in => k_is); (case l_label_in => k_is); (case q_label_in => k_is); (case k_label_in => k_is); (case m_labels_in => k_is); (case l_labels_in => k_is); (case q_labels_in => k_is); (case k_labels_in => k_is); (case m_is_number_told => k_is); (case l_is_number_told => k_is); (case q_is_number_told => k_is); (case k_is_number_told => k_is); (case m_row_with_spot => k_is); (case l_row_with_spot => k_is); (case q_row_with_spot => k_is); (case k_row_with_spot => k_is); (case m_row_of => k_is); (case l_row_of => k_is); (case q_row_of => k_is); (case k_row_of => k_is); (case m_read_program => k_is); (case l_read_program => k_is); (case q_read_program => k_is); (case k_read_program => k_is); (case m__law_signs => k_is); (case l__law_signs => k_is); (case q__law_signs => k_is); (case k__law_signs => k_is); (case m__law_spelt => k_is); (case l__law_spelt => k_is); (case q__law_spelt => k_is); (case k__law_spelt => k_is); (case m__law_line_spelt => k_is); (case l__law_line_spelt => k_is); (case q__law_line_spelt => k_is); (case k__law_line_spelt => k_is); (case m__law_refused => k_is); (case l__law_refused => k_is); (case q__law_refused => k_is); (case k__law_refused => k_is); (case m_law => k_is); (case l_law => k_is); (case q_law => k_is); (case k_law => k_is); (case z_ValueError => k_is); (case z_all => k_is); (case z_any => k_is); (case z_bool => k_is); (case z_divmod => k_is); (case z_enumerate => k_is); (case z_int => k_is); (case z_isinstance => k_is); (case z_len => k_is); (case z_list => k_is); (case z_max => k_is); (case z_min => k_is); (case z_range => k_is); (case z_str => k_is); (case z_tuple => k_is); (case z_zip => k_is)
