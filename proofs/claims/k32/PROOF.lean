import PyProof.Rows.All
import Wide.All
import OpenK.AllK
import Wide.FinOn
import HandS.ForMost
import HandS.Conv
import HandS.Deep
import HandS.ForExc
import HandS.IsInst
import HandS.NoneIn
import HandS.OwnEq
import HandS.Property
import HandS.SlotsOwn
import HandS.Star
import HandS.StrMore
import HandS.Strs
import HandS.Style
import HandS.TupAny
import HandS.TupLe
import HandS.TupMul
import HandS.WordsExc
import HandS.Zip
import KE.DataMinMax
import KE.GoesEnum
import KE.GoesMore
import KE.GoesZip
import PyProof.StrBlock2
import PySem.Challenge.RW_rakedpapers_k32_texts_of_papers
set_option Elab.async false
set_option linter.all false
set_option maxRecDepth 100000

/-! RpA: a pure state for this program: values W, objects Ob, the monad M; how they lie in the abstract heap. -/
namespace RP
open PySem L2

/-- a value: tuples are trees, all that changes is met by its number in the state -/
inductive W where
  | non | bl (b : Bool) | int (i : Int) | str (x : Str) | tup (xs : List W) | ref (i : Nat) | adr (a : Addr) | ty (n : String)
  deriving Inhabited
/-- an object of the state: a list, the script, an instance with a dict, an instance with slots (fields by their places), a dict -/
inductive Ob where
  | lst (xs : List W) | scr (ns : List Int) | ins (c : Nat) (fs : List W) | slo (c : Nat) (fs : List W) | dct (kvs : List (Key × W))
  deriving Inhabited
abbrev Sto := List Ob
/-- an exception: its class, its fields -/
structure Exn where
  c : Nat
  fs : List W
inductive Res (α : Type) where
  | ok (a : α) (S : Sto) | ex (x : Exn) (S : Sto) | bad
abbrev M (α : Type) := Sto → Res α
def ret {α : Type} (a : α) : M α := fun S => .ok a S
def bd {α β : Type} (m : M α) (k : α → M β) : M β := fun S => match m S with
  | .ok a S' => k a S'
  | .ex x S' => .ex x S'
  | .bad => .bad
def stuck {α : Type} : M α := fun _ => .bad
def guardM (b : Bool) : M Unit := fun S => if b then .ok () S else .bad
abbrev Slots := List (Option W)
/-- how a statement ends -/
inductive Fl where
  | nx (sl : Slots) | rt (w : W) | bk (sl : Slots) | ct (sl : Slots) | xx (x : Exn) (sl : Slots)

/-- the classes of a text by number: their addresses, the names of their fields -/
structure Tab where
  cls : Nat → Addr
  fl : Nat → List Str

mutual
inductive RelW (K : PySem.W.Frag) (ad : List Addr) (H : Hp) : W → V → Prop
  | non : RelW K ad H .non .non
  | bl (b : Bool) : RelW K ad H (.bl b) (.bl b)
  | int (i : Int) : RelW K ad H (.int i) (.int i)
  | str (x : Str) : RelW K ad H (.str x) (.str x)
  | tup {ws : List W} {a : Addr} {vs : List V} : SqT K H a vs → RelWs K ad H ws vs → RelW K ad H (.tup ws) (.ref a)
  | ref {i : Nat} {a : Addr} : ad[i]? = some a → RelW K ad H (.ref i) (.ref a)
  | adr (a : Addr) : RelW K ad H (.adr a) (.ref a)
  | ty (n : String) : RelW K ad H (.ty n) (.ty n)
inductive RelWs (K : PySem.W.Frag) (ad : List Addr) (H : Hp) : List W → List V → Prop
  | nil : RelWs K ad H [] []
  | cons {w : W} {v : V} {ws : List W} {vs : List V} : RelW K ad H w v → RelWs K ad H ws vs → RelWs K ad H (w :: ws) (v :: vs)
end

/-- what values need to stay -/
structure Up (K : PySem.W.Frag) (ad : List Addr) (H : Hp) (ad' : List Addr) (H' : Hp) : Prop where
  pre : ad <+: ad'
  fwd : ∀ a vs, SqT K H a vs → SqT K H' a vs
/-- what stands at an object's place is tracked, and neither a tuple nor a dict of an instance -/
def Keen : HO → Prop
  | .tup _ => False
  | .own _ => False
  | .xd _ => False
  | _ => True
/-- the state has gone on -/
structure Le (K : PySem.W.Frag) (ad : List Addr) (H : Hp) (ad' : List Addr) (H' : Hp) : Prop where
  pre : ad <+: ad'
  fwd : ∀ a vs, SqT K H a vs → SqT K H' a vs
  new : ∀ b ∈ ad', b ∉ ad → H b = none
  frm : ∀ b o, H b = some o → Keen o → b ∉ ad → H' b = some o
  xd : ∀ b, H b = some (.xd []) → H' b = some (.xd [])
  own : ∀ b x, H b = some (.own x) → H' b = some (.own x) ∨ H' b = some (.xd [])
  dom : ∀ b, H' b = none → H b = none

def RelOb (T : Tab) (K : PySem.W.Frag) (ad : List Addr) (H : Hp) (a : Addr) : Ob → Prop
  | .lst ws => ∃ vs, H a = some (.lst vs) ∧ RelWs K ad H ws vs
  | .scr ns => ∃ o, H a = some (.frz o (.lst (ns.map V.int)))
  | .ins c ws => ∃ dx vs, H a = some (.ins (T.cls c) dx ((T.fl c).zip vs)) ∧ ws.length ≤ (T.fl c).length ∧ RelWs K ad H ws vs
  | .slo c ws => ∃ dx vs, SlX.Slt H a (T.cls c) dx (vs.map some) ∧ dx ≠ a ∧ (H dx = some (.own a) ∨ H dx = some (.xd [])) ∧ RelWs K ad H ws vs
  | .dct kvs => ∃ vs, H a = some (.dK ((kvs.map (·.1)).zip vs)) ∧ RelWs K ad H (kvs.map (·.2)) vs

structure Rel (T : Tab) (K : PySem.W.Frag) (ad : List Addr) (H : Hp) (S : Sto) : Prop where
  len : ad.length = S.length
  nd : ad.Nodup
  ob : ∀ (i : Nat) (a : Addr) (o : Ob), ad[i]? = some a → S[i]? = some o → RelOb T K ad H a o

structure RelSl (K : PySem.W.Frag) (ad : List Addr) (H : Hp) (sl : Slots) (σ : St) : Prop where
  len : sl.length = σ.length
  get : ∀ (i : Nat) (w : W), sl[i]? = some (some w) → ∃ v, σ[i]? = some (some v) ∧ RelW K ad H w v

/-- an exception as the layer knows it -/
def RelX (T : Tab) (K : PySem.W.Frag) (ad : List Addr) (H : Hp) (x : Exn) (cls : Value) (d : Option Addr) : Prop :=
  cls = .ref (T.cls x.c) ∧ match x.fs with
    | [] => d = none
    | fs => ∃ dd vs, d = some dd ∧ H dd = some (.xd ((T.fl x.c).zip vs)) ∧ fs.length = (T.fl x.c).length ∧ RelWs K ad H fs vs

section
variable {K : PySem.W.Frag} {ad ad' ad2 : List Addr} {H H' H2 : Hp}
theorem Le.up (l : Le K ad H ad' H') : Up K ad H ad' H' := ⟨l.pre, l.fwd⟩
theorem Le.refl : Le K ad H ad H := ⟨List.prefix_rfl, fun _ _ h => h, fun _ h n => absurd h n, fun _ _ h _ _ => h, fun _ h => h, fun _ _ h => .inl h, fun _ h => h⟩
theorem Le.trans (a : Le K ad H ad' H') (b : Le K ad' H' ad2 H2) : Le K ad H ad2 H2 := by
  refine ⟨a.pre.trans b.pre, fun c vs h => b.fwd c vs (a.fwd c vs h), fun c h n => ?_, fun c o h k n => ?_, fun c h => b.xd c (a.xd c h), fun c x h => ?_, fun c h => a.dom c (b.dom c h)⟩
  · by_cases q : c ∈ ad'
    · exact a.new c q n
    · exact a.dom c (b.new c h q)
  · refine b.frm c o (a.frm c o h k n) k fun q => ?_
    have z := a.new c q n
    rw [z] at h; cases h
  · rcases a.own c x h with q | q
    · exact b.own c x q
    · exact .inr (b.xd c q)
theorem pre_get {ad ad' : List Addr} (h : ad <+: ad') {i : Nat} {a : Addr} (e : ad[i]? = some a) : ad'[i]? = some a := by
  obtain ⟨t, rfl⟩ := h
  rw [List.getElem?_append_left (List.getElem?_eq_some_iff.mp e).1]
  exact e
mutual
theorem RelW.up (l : Up K ad H ad' H') : ∀ {w : W} {v : V}, RelW K ad H w v → RelW K ad' H' w v
  | _, _, .non => .non
  | _, _, .bl b => .bl b
  | _, _, .int b => .int b
  | _, _, .str b => .str b
  | _, _, .tup s r => .tup (l.fwd _ _ s) (RelWs.up l r)
  | _, _, .ref e => .ref (pre_get l.pre e)
  | _, _, .adr a => .adr a
  | _, _, .ty n => .ty n
theorem RelWs.up (l : Up K ad H ad' H') : ∀ {ws : List W} {vs : List V}, RelWs K ad H ws vs → RelWs K ad' H' ws vs
  | _, _, .nil => .nil
  | _, _, .cons r t => .cons (RelW.up l r) (RelWs.up l t)
end
theorem RelW.mono (l : Le K ad H ad' H') {w : W} {v : V} (r : RelW K ad H w v) : RelW K ad' H' w v := r.up l.up
theorem RelWs.mono (l : Le K ad H ad' H') {ws : List W} {vs : List V} (r : RelWs K ad H ws vs) : RelWs K ad' H' ws vs := r.up l.up
theorem RelWs.length : ∀ {ws : List W} {vs : List V}, RelWs K ad H ws vs → ws.length = vs.length
  | _, _, .nil => rfl
  | _, _, .cons _ t => by simp [RelWs.length t]
theorem RelWs.get : ∀ {ws : List W} {vs : List V} {i : Nat} {w : W}, RelWs K ad H ws vs → ws[i]? = some w → ∃ v, vs[i]? = some v ∧ RelW K ad H w v
  | _, _, _, _, .nil, e => by simp at e
  | _, _, 0, _, .cons r _, e => by simp at e; subst e; exact ⟨_, rfl, r⟩
  | _, _, i + 1, w, .cons _ t, e => by
    obtain ⟨v, h1, h2⟩ := RelWs.get (i := i) (w := w) t (by simpa using e)
    exact ⟨v, by simpa using h1, h2⟩
theorem RelWs.getV : ∀ {ws : List W} {vs : List V} {i : Nat} {v : V}, RelWs K ad H ws vs → vs[i]? = some v → ∃ w, ws[i]? = some w ∧ RelW K ad H w v
  | _, _, _, _, .nil, e => by simp at e
  | _, _, 0, _, .cons r _, e => by simp at e; subst e; exact ⟨_, rfl, r⟩
  | _, _, i + 1, v, .cons _ t, e => by
    obtain ⟨w, h1, h2⟩ := RelWs.getV (i := i) (v := v) t (by simpa using e)
    exact ⟨w, by simpa using h1, h2⟩
theorem RelWs.append : ∀ {ws ws' : List W} {vs vs' : List V}, RelWs K ad H ws vs → RelWs K ad H ws' vs' → RelWs K ad H (ws ++ ws') (vs ++ vs')
  | _, _, _, _, .nil, s => s
  | _, _, _, _, .cons r t, s => .cons r (RelWs.append t s)
theorem RelWs.set {w : W} {v : V} (r : RelW K ad H w v) : ∀ {ws : List W} {vs : List V} (i : Nat), RelWs K ad H ws vs → RelWs K ad H (ws.set i w) (vs.set i v)
  | _, _, _, .nil => .nil
  | _, _, 0, .cons _ t => .cons r t
  | _, _, i + 1, .cons q t => .cons q (RelWs.set r i t)
theorem RelWs.take : ∀ {ws : List W} {vs : List V} (n : Nat), RelWs K ad H ws vs → RelWs K ad H (ws.take n) (vs.take n)
  | _, _, 0, _ => .nil
  | _, _, _ + 1, .nil => .nil
  | _, _, n + 1, .cons r t => .cons r (RelWs.take n t)
theorem RelWs.drop : ∀ {ws : List W} {vs : List V} (n : Nat), RelWs K ad H ws vs → RelWs K ad H (ws.drop n) (vs.drop n)
  | _, _, 0, r => r
  | _, _, _ + 1, .nil => .nil
  | _, _, n + 1, .cons _ t => RelWs.drop n t
theorem RelSl.up {sl : Slots} {σ : St} (h : RelSl K ad H sl σ) (l : Up K ad H ad' H') : RelSl K ad' H' sl σ :=
  ⟨h.len, fun i w e => let ⟨v, a, b⟩ := h.get i w e; ⟨v, a, b.up l⟩⟩
theorem RelSl.mono {sl : Slots} {σ : St} (h : RelSl K ad H sl σ) (l : Le K ad H ad' H') : RelSl K ad' H' sl σ := h.up l.up
theorem RelSl.set {sl : Slots} {σ : St} (h : RelSl K ad H sl σ) {w : W} {v : V} (r : RelW K ad H w v) (i : Nat) : RelSl K ad H (sl.set i (some w)) (σ.set i (some v)) := by
  refine ⟨by simp [h.len], fun j u e => ?_⟩
  by_cases hj : i = j
  · subst hj
    by_cases hl : i < sl.length
    · rw [List.getElem?_set_self hl] at e
      cases e
      exact ⟨v, by rw [List.getElem?_set_self (h.len ▸ hl)], r⟩
    · rw [List.getElem?_eq_none (by simpa using hl)] at e
      cases e
  · rw [List.getElem?_set_ne hj] at e ⊢
    exact h.get j u e
theorem RelSl.clear {sl : Slots} {σ : St} (h : RelSl K ad H sl σ) (i : Nat) : RelSl K ad H (sl.set i none) (σ.set i none) := by
  refine ⟨by simp [h.len], fun j u e => ?_⟩
  by_cases hj : i = j
  · subst hj
    by_cases hl : i < sl.length
    · rw [List.getElem?_set_self hl] at e
      cases e
    · rw [List.getElem?_eq_none (by simpa using hl)] at e
      cases e
  · rw [List.getElem?_set_ne hj] at e ⊢
    exact h.get j u e
theorem RelSl.start {N : List Str} {ws : List W} {vs : List V} (r : RelWs K ad H ws vs) : RelSl K ad H (ws.map some ++ List.replicate (N.length - ws.length) none) (L2.start N vs) := by
  unfold L2.start
  refine ⟨by simp [r.length], fun j u e => ?_⟩
  by_cases hl : j < ws.length
  · rw [List.getElem?_append_left (by simpa using hl)] at e
    rw [List.getElem?_append_left (by simpa [← r.length] using hl)]
    rw [List.getElem?_map] at e ⊢
    cases q : ws[j]? with
    | none => rw [q] at e; cases e
    | some w =>
      rw [q] at e
      cases e
      obtain ⟨v, h1, h2⟩ := r.get q
      exact ⟨v, by rw [h1]; rfl, h2⟩
  · rw [List.getElem?_append_right (by simpa using hl)] at e
    rw [List.getElem?_replicate] at e
    split at e <;> cases e
end

/-! ### the state grows, the state is written -/
theorem Slt.same {H H' : Hp} (s : Same H H') {a C dx : Addr} {vs : List (Option V)} (h : SlX.Slt H a C dx vs) : SlX.Slt H' a C dx vs := by
  rcases h with ⟨h1, h2⟩ | ⟨h1, h2⟩
  · exact .inl ⟨s _ _ h1, h2⟩
  · exact .inr ⟨s _ _ h1, s _ _ h2⟩
theorem SqT.same {K : PySem.W.Frag} {H H' : Hp} (s : Same H H') {a : Addr} {vs : List V} (h : SqT K H a vs) : SqT K H' a vs := by
  rcases h with (h | ⟨o, h⟩) | h
  · exact .inl (.inl (s _ _ h))
  · exact .inl (.inr ⟨o, s _ _ h⟩)
  · exact .inr h
section
variable {T : Tab} {K : PySem.W.Frag} {ad ad' : List Addr} {H H' : Hp} {S : Sto} {a p : Addr} {o : Ob}
theorem Le.same (s : Same H H') (h : ad <+: ad') (hn : ∀ b ∈ ad', b ∉ ad → H b = none) : Le K ad H ad' H' :=
  ⟨h, fun _ _ => SqT.same s, hn, fun _ _ h _ _ => s _ _ h, fun _ h => s _ _ h, fun _ _ h => .inl (s _ _ h), fun b h => by
    cases q : H b with
    | none => rfl
    | some o => rw [s _ _ q] at h; cases h⟩
theorem Le.same0 (s : Same H H') : Le K ad H ad H' := Le.same s List.prefix_rfl fun _ h n => absurd h n
theorem Le.one (s : Same H H') (hp : H p = none) : Le K ad H (ad ++ [p]) H' := Le.same s ⟨_, rfl⟩ fun b h n => by
  rcases List.mem_append.mp h with h | h
  · exact absurd h n
  · have e : b = p := by simpa using h
    rw [e]; exact hp
theorem RelOb.same (l : Le K ad H ad' H') (s : Same H H') (r : RelOb T K ad H a o) : RelOb T K ad' H' a o := by
  cases o with
  | lst ws => obtain ⟨vs, h1, h2⟩ := r; exact ⟨vs, s _ _ h1, h2.mono l⟩
  | scr ns => obtain ⟨o, h1⟩ := r; exact ⟨o, s _ _ h1⟩
  | ins c ws => obtain ⟨dx, vs, h1, h2, h3⟩ := r; exact ⟨dx, vs, s _ _ h1, h2, h3.mono l⟩
  | slo c ws => obtain ⟨dx, vs, h1, h2, h4, h3⟩ := r; exact ⟨dx, vs, Slt.same s h1, h2, h4.imp (s _ _) (s _ _), h3.mono l⟩
  | dct kvs => obtain ⟨vs, h1, h2⟩ := r; exact ⟨vs, s _ _ h1, h2.mono l⟩
theorem RelOb.there (r : RelOb T K ad H a o) : ∃ u, H a = some u ∧ Keen u := by
  cases o with
  | lst ws => obtain ⟨vs, h1, _⟩ := r; exact ⟨_, h1, trivial⟩
  | scr ns => obtain ⟨o, h1⟩ := r; exact ⟨_, h1, trivial⟩
  | ins c ws => obtain ⟨dx, vs, h1, _⟩ := r; exact ⟨_, h1, trivial⟩
  | slo c ws =>
    obtain ⟨dx, vs, h1 | h1, _⟩ := r
    · exact ⟨_, h1.1, trivial⟩
    · exact ⟨_, h1.1, trivial⟩
  | dct kvs => obtain ⟨vs, h1, _⟩ := r; exact ⟨_, h1, trivial⟩
theorem Rel.there (R : Rel T K ad H S) {i : Nat} (e : ad[i]? = some a) : ∃ o u, S[i]? = some o ∧ H a = some u ∧ Keen u := by
  have hl := (List.getElem?_eq_some_iff.mp e).1
  rw [R.len] at hl
  have q : S[i]? = some S[i] := List.getElem?_eq_getElem hl
  obtain ⟨u, h1, h2⟩ := (R.ob i a _ e q).there
  exact ⟨_, u, q, h1, h2⟩
theorem Rel.new (R : Rel T K ad H S) (hp : H p = none) : p ∉ ad := fun hm => by
  obtain ⟨i, hi⟩ := List.mem_iff_getElem?.mp hm
  obtain ⟨_, u, _, h, _⟩ := R.there hi
  rw [hp] at h; cases h
theorem Rel.alloc (R : Rel T K ad H S) (s : Same H H') (hp : H p = none) (r : RelOb T K (ad ++ [p]) H' p o) : Rel T K (ad ++ [p]) H' (S ++ [o]) := by
  refine ⟨by simp [R.len], ?_, fun i a ob e q => ?_⟩
  · rw [List.nodup_append]
    exact ⟨R.nd, by simp, fun x hx y hy => by
      have : y = p := by simpa using hy
      subst this
      intro e
      subst e
      exact R.new hp hx⟩
  · by_cases hi : i < ad.length
    · rw [List.getElem?_append_left hi] at e
      rw [List.getElem?_append_left (R.len ▸ hi)] at q
      exact (R.ob i a ob e q).same (Le.one s hp) s
    · rw [List.getElem?_append_right (by omega)] at e
      rw [List.getElem?_append_right (by rw [← R.len]; omega)] at q
      rw [← R.len] at q
      cases hz : i - ad.length with
      | zero =>
        rw [hz] at e q
        simp at e q
        subst e q
        exact r
      | succ n => rw [hz] at e; simp at e
theorem Rel.same (R : Rel T K ad H S) (s : Same H H') : Rel T K ad H' S := ⟨R.len, R.nd, fun i a ob e q => (R.ob i a ob e q).same (Le.same0 s) s⟩
/-- all but the place a is kept, and the dicts of instances -/
structure But (a : Addr) (H H' : Hp) : Prop where
  keep : ∀ b o, b ≠ a → Keen o → H b = some o → H' b = some o
  tup : ∀ b vs, H b = some (.tup vs) → H' b = some (.tup vs)
  xd : ∀ b, b ≠ a → H b = some (.xd []) → H' b = some (.xd [])
  own : ∀ b x, b ≠ a → H b = some (.own x) → H' b = some (.own x) ∨ H' b = some (.xd [])
  dom : ∀ b, H' b = none → H b = none
theorem But.upd {o u : HO} (h : H a = some o) (k : Keen o) : But a H (upd H a u) :=
  ⟨fun b _ n _ e => by rw [upd_ne n]; exact e, fun b vs e => by
    have n : b ≠ a := fun z => by subst z; rw [h] at e; cases e; exact k
    rw [upd_ne n]; exact e, fun b n e => by rw [upd_ne n]; exact e, fun b x n e => .inl (by rw [upd_ne n]; exact e), fun b e => by
    by_cases n : b = a
    · rw [n, upd_same] at e; cases e
    · rw [upd_ne n] at e; exact e⟩
theorem But.le (b : But a H H') (hf : ∀ o u, H a ≠ some (.frz o (.tup u))) (ha : a ∈ ad) (hk : ∃ u, H a = some u ∧ Keen u) : Le K ad H ad H' := ⟨List.prefix_rfl, fun c vs h => by
  rcases h with (h | ⟨o, h⟩) | h
  · exact .inl (.inl (b.tup _ _ h))
  · refine .inl (.inr ⟨o, b.keep _ _ (fun z => ?_) trivial h⟩)
    subst z
    exact hf _ _ h
  · exact .inr h, fun _ h n => absurd h n, fun c o h k n => b.keep c _ (fun z => n (z ▸ ha)) k h, fun c h => b.xd c (fun z => by
    subst z
    obtain ⟨u, e, k⟩ := hk
    rw [e] at h; cases h; exact k) h, fun c x h => b.own c x (fun z => by
    subst z
    obtain ⟨u, e, k⟩ := hk
    rw [e] at h; cases h; exact k) h, b.dom⟩
theorem Rel.keen (R : Rel T K ad H S) {i : Nat} (e : ad[i]? = some a) : ∃ u, H a = some u ∧ Keen u := by
  obtain ⟨_, u, _, h, k⟩ := R.there e
  exact ⟨u, h, k⟩
theorem RelOb.but {c : Addr} (l : Up K ad H ad' H') (b : But c H H') (n : a ≠ c) (r : RelOb T K ad H a o) (hdx : ∀ dx, H dx = some (.xd []) → dx ≠ c) (hdo : ∀ dx x, H dx = some (.own x) → dx ≠ c) : RelOb T K ad' H' a o := by
  cases o with
  | lst ws => obtain ⟨vs, h1, h2⟩ := r; exact ⟨vs, b.keep _ _ n trivial h1, h2.up l⟩
  | scr ns => obtain ⟨o, h1⟩ := r; exact ⟨o, b.keep _ _ n trivial h1⟩
  | ins c ws => obtain ⟨dx, vs, h1, h2, h3⟩ := r; exact ⟨dx, vs, b.keep _ _ n trivial h1, h2, h3.up l⟩
  | slo c ws =>
    obtain ⟨dx, vs, h1, h2, h4', h3⟩ := r
    refine ⟨dx, vs, ?_, h2, ?_, h3.up l⟩
    rotate_left
    · rcases h4' with q | q
      · exact b.own _ _ (hdo _ _ q) q
      · exact .inr (b.xd _ (hdx _ q) q)
    rcases h1 with ⟨h1, h4⟩ | ⟨h1, h4⟩
    · exact .inl ⟨b.keep _ _ n trivial h1, h4⟩
    · exact .inr ⟨b.keep _ _ n trivial h1, b.xd _ (hdx _ h4) h4⟩
  | dct kvs => obtain ⟨vs, h1, h2⟩ := r; exact ⟨vs, b.keep _ _ n trivial h1, h2.up l⟩
/-- the object at i is written -/
theorem Rel.write (R : Rel T K ad H S) {i : Nat} (e : ad[i]? = some a) (b : But a H H') (hf : ∀ o u, H a ≠ some (.frz o (.tup u))) (r : RelOb T K ad H' a o) : Rel T K ad H' (S.set i o) := by
  have l : Le K ad H ad H' := b.le hf (List.mem_of_getElem? e) (R.keen e)
  refine ⟨by simp [R.len], R.nd, fun j c ob q h => ?_⟩
  by_cases hj : i = j
  · subst hj
    rw [e] at q; cases q
    have hl := (List.getElem?_eq_some_iff.mp e).1
    rw [R.len] at hl
    rw [List.getElem?_set_self hl] at h
    cases h
    exact r
  · rw [List.getElem?_set_ne hj] at h
    have n : c ≠ a := fun z => by
      subst z
      obtain ⟨h1, e1⟩ := List.getElem?_eq_some_iff.mp e
      obtain ⟨h2, e2⟩ := List.getElem?_eq_some_iff.mp q
      exact hj ((List.getElem_inj R.nd).mp (e1.trans e2.symm))
    obtain ⟨_, u, _, hu, ku⟩ := R.there e
    refine (R.ob j c ob q h).but l.up b n (fun dx h2 z => ?_) fun dx x h2 z => ?_
    · subst z
      rw [hu] at h2; cases h2; exact ku
    · subst z
      rw [hu] at h2; cases h2; exact ku
/-- an object that is none of the state's is written -/
theorem Rel.off (R : Rel T K ad H S) {D : Addr} (hD : D ∉ ad) (l : Up K ad H ad H') (b : But D H H') (hx : H D ≠ some (.xd [])) (ho : ∀ x, H D ≠ some (.own x)) : Rel T K ad H' S := by
  refine ⟨R.len, R.nd, fun j c ob q h => ?_⟩
  exact (R.ob j c ob q h).but l b (fun z => hD (z ▸ List.mem_of_getElem? q)) (fun dx h2 z => hx (z ▸ h2)) fun dx x h2 z => ho x (z ▸ h2)
theorem But.refl : But a H H := ⟨fun _ _ _ _ h => h, fun _ _ h => h, fun _ _ h => h, fun _ _ _ h => .inl h, fun _ h => h⟩
/-- a list that stood beside the state becomes one of its objects -/
theorem Rel.take (R : Rel T K ad H S) {D : Addr} (hD : D ∉ ad) {ws : List W} {vs : List V} (e : H D = some (.lst vs)) (r : RelWs K ad H ws vs) : Rel T K (ad ++ [D]) H (S ++ [.lst ws]) := by
  have u : Up K ad H (ad ++ [D]) H := ⟨⟨_, rfl⟩, fun _ _ h => h⟩
  refine ⟨by simp [R.len], ?_, fun i a ob e' q => ?_⟩
  · rw [List.nodup_append]
    exact ⟨R.nd, by simp, fun x hx y hy => by
      have : y = D := by simpa using hy
      subst this
      intro e
      subst e
      exact hD hx⟩
  · by_cases hi : i < ad.length
    · rw [List.getElem?_append_left hi] at e'
      rw [List.getElem?_append_left (R.len ▸ hi)] at q
      exact (R.ob i a ob e' q).but (c := D) u But.refl (fun z => hD (z ▸ List.mem_of_getElem? e')) (fun dx h2 z => by
        subst z
        rw [e] at h2; cases h2) fun dx x h2 z => by
        subst z
        rw [e] at h2; cases h2
    · rw [List.getElem?_append_right (by omega)] at e'
      rw [List.getElem?_append_right (by rw [← R.len]; omega)] at q
      rw [← R.len] at q
      cases hz : i - ad.length with
      | zero =>
        rw [hz] at e' q
        simp at e' q
        subst e' q
        exact ⟨vs, e, r.up u⟩
      | succ n => rw [hz] at e'; simp at e'
/-- .. behind a state in which it did not stand -/
theorem Le.off {H0 : Hp} {ad0 : List Addr} {D : Addr} {vs us : List V} (l : Le K ad0 H0 ad H) (hD : H0 D = none) (e : H D = some (.lst vs)) : Le K ad0 H0 ad (upd H D (.lst us)) := by
  refine ⟨l.pre, fun a xs h => ?_, l.new, fun b o h k n => ?_, fun b h => ?_, fun b x h => ?_, fun b h => ?_⟩
  · have q := l.fwd a xs h
    rcases q with (q | ⟨o, q⟩) | q
    · have n : a ≠ D := fun z => by rw [z, e] at q; cases q
      exact .inl (.inl (by rw [upd_ne n]; exact q))
    · have n : a ≠ D := fun z => by rw [z, e] at q; cases q
      exact .inl (.inr ⟨o, by rw [upd_ne n]; exact q⟩)
    · exact .inr q
  · have n' : b ≠ D := fun z => by rw [z, hD] at h; cases h
    rw [upd_ne n']
    exact l.frm b o h k n
  · have n' : b ≠ D := fun z => by rw [z, hD] at h; cases h
    rw [upd_ne n']
    exact l.xd b h
  · have n' : b ≠ D := fun z => by rw [z, hD] at h; cases h
    rw [upd_ne n']
    exact l.own b x h
  · by_cases n : b = D
    · rw [n]; exact hD
    · rw [upd_ne n] at h
      exact l.dom b h
end
end RP

/-! RpB: the judgements: an expression, a test, a statement behaves as a function of the state. -/
namespace RP
open PySem L2

section
variable (T : Tab) (K : PySem.W.Frag)
/-- what is wanted of a computation's end -/
def run (ad : List Addr) (H : Hp) (r : Res W) (Q : VK) (E : XK) : Prop := match r with
  | .ok w S => ∀ ad' H' v, Le K ad H ad' H' → Rel T K ad' H' S → RelW K ad' H' w v → Q v H'
  | .ex x S => ∀ ad' H' cls d, Le K ad H ad' H' → Rel T K ad' H' S → RelX T K ad' H' x cls d → E cls d H'
  | .bad => False
def runT (ad : List Addr) (H : Hp) (r : Res Bool) (Q : Bool → Hp → Prop) (E : XK) : Prop := match r with
  | .ok b S => ∀ ad' H', Le K ad H ad' H' → Rel T K ad' H' S → Q b H'
  | .ex x S => ∀ ad' H' cls d, Le K ad H ad' H' → Rel T K ad' H' S → RelX T K ad' H' x cls d → E cls d H'
  | .bad => False
def runA (ad : List Addr) (H : Hp) (r : Res (List W)) (Q : List V → Hp → Prop) (E : XK) : Prop := match r with
  | .ok ws S => ∀ ad' H' vs, Le K ad H ad' H' → Rel T K ad' H' S → RelWs K ad' H' ws vs → Q vs H'
  | .ex x S => ∀ ad' H' cls d, Le K ad H ad' H' → Rel T K ad' H' S → RelX T K ad' H' x cls d → E cls d H'
  | .bad => False
def runS (ad : List Addr) (H : Hp) (r : Res Fl) (D : Ends) (Wx : WX) : Prop := match r with
  | .ok (.nx sl) S => ∀ ad' H' σ, Le K ad H ad' H' → Rel T K ad' H' S → RelSl K ad' H' sl σ → D.nx σ H'
  | .ok (.rt w) S => ∀ ad' H' v, Le K ad H ad' H' → Rel T K ad' H' S → RelW K ad' H' w v → D.rt v H'
  | .ok (.bk sl) S => ∀ ad' H' σ, Le K ad H ad' H' → Rel T K ad' H' S → RelSl K ad' H' sl σ → D.bk σ H'
  | .ok (.ct sl) S => ∀ ad' H' σ, Le K ad H ad' H' → Rel T K ad' H' S → RelSl K ad' H' sl σ → D.ct σ H'
  | .ok (.xx x sl) S => ∀ ad' H' cls d σ, Le K ad H ad' H' → Rel T K ad' H' S → RelX T K ad' H' x cls d → RelSl K ad' H' sl σ → Wx cls d σ H'
  | _ => False
/-- the readings -/
def rd (f : Slots → M W) (Wx : WX) : TE := fun σ H Q => ∃ ad S sl, Rel T K ad H S ∧ RelSl K ad H sl σ ∧ run T K ad H (f sl S) Q fun c d H' => Wx c d σ H'
def rdT (f : Slots → M Bool) (Wx : WX) : TT := fun σ H Q => ∃ ad S sl, Rel T K ad H S ∧ RelSl K ad H sl σ ∧ runT T K ad H (f sl S) Q fun c d H' => Wx c d σ H'
def rdA (f : Slots → M (List W)) (Wx : WX) : TA := fun σ H Q => ∃ ad S sl, Rel T K ad H S ∧ RelSl K ad H sl σ ∧ runA T K ad H (f sl S) Q fun c d H' => Wx c d σ H'
def rdS (f : Slots → M Fl) (Wx : WX) : TS := fun D σ H => ∃ ad S sl, Rel T K ad H S ∧ RelSl K ad H sl σ ∧ runS T K ad H (f sl S) D Wx
/-- an operation on one, two values, a call on values -/
def r1 (g : W → M W) (E : XK) : V → Hp → VK → Prop := fun x H Q => ∃ ad S w, Rel T K ad H S ∧ RelW K ad H w x ∧ run T K ad H (g w S) Q E
def r2 (g : W → W → M W) (E : XK) : R2 := fun x y H Q => ∃ ad S w u, Rel T K ad H S ∧ RelW K ad H w x ∧ RelW K ad H u y ∧ run T K ad H (g w u S) Q E
def rN (g : List W → M W) (E : XK) : List V → Hp → VK → Prop := fun xs H Q => ∃ ad S ws, Rel T K ad H S ∧ RelWs K ad H ws xs ∧ run T K ad H (g ws S) Q E
end

section
variable {T : Tab} {K : PySem.W.Frag} {ad ad' : List Addr} {H H' : Hp} {α : Type}
theorem run_mono {r : Res W} {Q : VK} {E : XK} (l : Le K ad H ad' H') (h : run T K ad H r Q E) : run T K ad' H' r Q E := by
  cases r with
  | ok w S => exact fun a b c l' => h a b c (l.trans l')
  | ex x S => exact fun a b c d l' => h a b c d (l.trans l')
  | bad => exact h
theorem run_imp {r : Res W} {Q Q' : VK} {E : XK} (h : run T K ad H r Q E) (q : ∀ v H, Q v H → Q' v H) : run T K ad H r Q' E := by
  cases r with
  | ok w S => exact fun a b c l' R r => q _ _ (h a b c l' R r)
  | ex x S => exact h
  | bad => exact h
theorem runT_mono {r : Res Bool} {Q : Bool → Hp → Prop} {E : XK} (l : Le K ad H ad' H') (h : runT T K ad H r Q E) : runT T K ad' H' r Q E := by
  cases r with
  | ok w S => exact fun a b l' => h a b (l.trans l')
  | ex x S => exact fun a b c d l' => h a b c d (l.trans l')
  | bad => exact h
theorem runA_mono {r : Res (List W)} {Q : List V → Hp → Prop} {E : XK} (l : Le K ad H ad' H') (h : runA T K ad H r Q E) : runA T K ad' H' r Q E := by
  cases r with
  | ok w S => exact fun a b c l' => h a b c (l.trans l')
  | ex x S => exact fun a b c d l' => h a b c d (l.trans l')
  | bad => exact h
theorem runS_mono {r : Res Fl} {D : Ends} {Wx : WX} (l : Le K ad H ad' H') (h : runS T K ad H r D Wx) : runS T K ad' H' r D Wx := by
  cases r with
  | ok f S =>
    cases f with
    | nx sl => exact fun a b c l' => h a b c (l.trans l')
    | rt sl => exact fun a b c l' => h a b c (l.trans l')
    | bk sl => exact fun a b c l' => h a b c (l.trans l')
    | ct sl => exact fun a b c l' => h a b c (l.trans l')
    | xx x sl => exact fun a b c d e l' => h a b c d e (l.trans l')
  | ex x S => exact h
  | bad => exact h
/-- an expression, then what goes on with its value: for every kind of end -/
theorem run_bd {m : M W} {k : W → M W} {S : Sto} {Q : VK} {E : XK} (h : run T K ad H (bd m k S) Q E) :
    run T K ad H (m S) (fun v H1 => ∃ ad1 S1 w, Le K ad H ad1 H1 ∧ Rel T K ad1 H1 S1 ∧ RelW K ad1 H1 w v ∧ run T K ad1 H1 (k w S1) Q E) E := by
  unfold bd at h
  cases q : m S with
  | ok w S1 => rw [q] at h; exact fun a b c l R r => ⟨a, S1, w, l, R, r, run_mono l h⟩
  | ex x S => rw [q] at h; exact h
  | bad => rw [q] at h; exact h
theorem run_bdT {m : M W} {k : W → M Bool} {S : Sto} {Q : Bool → Hp → Prop} {E : XK} (h : runT T K ad H (bd m k S) Q E) :
    run T K ad H (m S) (fun v H1 => ∃ ad1 S1 w, Le K ad H ad1 H1 ∧ Rel T K ad1 H1 S1 ∧ RelW K ad1 H1 w v ∧ runT T K ad1 H1 (k w S1) Q E) E := by
  unfold bd at h
  cases q : m S with
  | ok w S1 => rw [q] at h; exact fun a b c l R r => ⟨a, S1, w, l, R, r, runT_mono l h⟩
  | ex x S => rw [q] at h; exact h
  | bad => rw [q] at h; exact h
theorem run_bdA {m : M W} {k : W → M (List W)} {S : Sto} {Q : List V → Hp → Prop} {E : XK} (h : runA T K ad H (bd m k S) Q E) :
    run T K ad H (m S) (fun v H1 => ∃ ad1 S1 w, Le K ad H ad1 H1 ∧ Rel T K ad1 H1 S1 ∧ RelW K ad1 H1 w v ∧ runA T K ad1 H1 (k w S1) Q E) E := by
  unfold bd at h
  cases q : m S with
  | ok w S1 => rw [q] at h; exact fun a b c l R r => ⟨a, S1, w, l, R, r, runA_mono l h⟩
  | ex x S => rw [q] at h; exact h
  | bad => rw [q] at h; exact h
theorem runT_bd {m : M Bool} {k : Bool → M W} {S : Sto} {Q : VK} {E : XK} (h : run T K ad H (bd m k S) Q E) :
    runT T K ad H (m S) (fun b H1 => ∃ ad1 S1, Le K ad H ad1 H1 ∧ Rel T K ad1 H1 S1 ∧ run T K ad1 H1 (k b S1) Q E) E := by
  unfold bd at h
  cases q : m S with
  | ok w S1 => rw [q] at h; exact fun a b l R => ⟨a, S1, l, R, run_mono l h⟩
  | ex x S => rw [q] at h; exact h
  | bad => rw [q] at h; exact h
theorem runT_bdT {m : M Bool} {k : Bool → M Bool} {S : Sto} {Q : Bool → Hp → Prop} {E : XK} (h : runT T K ad H (bd m k S) Q E) :
    runT T K ad H (m S) (fun b H1 => ∃ ad1 S1, Le K ad H ad1 H1 ∧ Rel T K ad1 H1 S1 ∧ runT T K ad1 H1 (k b S1) Q E) E := by
  unfold bd at h
  cases q : m S with
  | ok w S1 => rw [q] at h; exact fun a b l R => ⟨a, S1, l, R, runT_mono l h⟩
  | ex x S => rw [q] at h; exact h
  | bad => rw [q] at h; exact h
theorem runA_bd {m : M (List W)} {k : List W → M W} {S : Sto} {Q : VK} {E : XK} (h : run T K ad H (bd m k S) Q E) :
    runA T K ad H (m S) (fun vs H1 => ∃ ad1 S1 ws, Le K ad H ad1 H1 ∧ Rel T K ad1 H1 S1 ∧ RelWs K ad1 H1 ws vs ∧ run T K ad1 H1 (k ws S1) Q E) E := by
  unfold bd at h
  cases q : m S with
  | ok w S1 => rw [q] at h; exact fun a b c l R r => ⟨a, S1, w, l, R, r, run_mono l h⟩
  | ex x S => rw [q] at h; exact h
  | bad => rw [q] at h; exact h
theorem runA_bdA {m : M (List W)} {k : List W → M (List W)} {S : Sto} {Q : List V → Hp → Prop} {E : XK} (h : runA T K ad H (bd m k S) Q E) :
    runA T K ad H (m S) (fun vs H1 => ∃ ad1 S1 ws, Le K ad H ad1 H1 ∧ Rel T K ad1 H1 S1 ∧ RelWs K ad1 H1 ws vs ∧ runA T K ad1 H1 (k ws S1) Q E) E := by
  unfold bd at h
  cases q : m S with
  | ok w S1 => rw [q] at h; exact fun a b c l R r => ⟨a, S1, w, l, R, r, runA_mono l h⟩
  | ex x S => rw [q] at h; exact h
  | bad => rw [q] at h; exact h
theorem runT_imp {r : Res Bool} {Q Q' : Bool → Hp → Prop} {E : XK} (h : runT T K ad H r Q E) (q : ∀ v H, Q v H → Q' v H) : runT T K ad H r Q' E := by
  cases r with
  | ok w S => exact fun a b l' R => q _ _ (h a b l' R)
  | ex x S => exact h
  | bad => exact h
theorem runA_imp {r : Res (List W)} {Q Q' : List V → Hp → Prop} {E : XK} (h : runA T K ad H r Q E) (q : ∀ v H, Q v H → Q' v H) : runA T K ad H r Q' E := by
  cases r with
  | ok w S => exact fun a b c l' R r => q _ _ (h a b c l' R r)
  | ex x S => exact h
  | bad => exact h
/-- a value is there -/
theorem run_ok {w : W} {v : V} {S : Sto} {Q : VK} {E : XK} (R : Rel T K ad H S) (r : RelW K ad H w v) (h : run T K ad H (.ok w S) Q E) : Q v H := h ad H v Le.refl R r
end

/-! ### the contexts -/
structure Mo where
  P : Program
  w : World
  K : PySem.W.Frag
  mg : Str → Option Value
  base : Heap
def moOf (X : Cx) : Mo := ⟨X.prog, X.w, X.K, X.mg, X.base⟩
/-- a body of the text: at level k (room for calls k deep); c: nothing is handled; t: a def's own frame -/
structure Good (m : Mo) (k : Nat) (c t : Bool) (sc : Scope) (N ow : List Str) (X : Cx) : Prop where
  mo : moOf X = m
  hsc : X.env.scope = sc
  hN : X.N = N
  nd : N.Nodup
  calm : c = true → X.calm = true
  room : c = true → Room k X.A
  un : X.A.units + 64 < cLine
  own : PassesOwn (model X.prog X.w) X.A X.env X.xe
  fn : ∀ x ∈ ow, X.fn x = true
  top : t = true → X.stack = X.env :: X.outer ∧ X.env.frame = some X.env.locals
section
variable (m : Mo) (T : Tab) (k : Nat) (c t : Bool) (sc : Scope) (N ow : List Str)
def SE (e : Expr) (f : Slots → M W) : Prop := ∀ X, Good m k c t sc N ow X → ∀ Wx, Takes X Wx → PE X e (rd T m.K f Wx)
def ST (e : Expr) (f : Slots → M Bool) : Prop := ∀ X, Good m k c t sc N ow X → ∀ Wx, Takes X Wx → PT X e (rdT T m.K f Wx)
def SW (e : Expr) (f : Slots → M Bool) : Prop := ∀ X, Good m k c t sc N ow X → ∀ Wx, Takes X Wx → PW X e (rdT T m.K f Wx)
def SA (es : List Expr) (f : Slots → M (List W)) : Prop := ∀ X, Good m k c t sc N ow X → ∀ Wx, Takes X Wx → PA X es (rdA T m.K f Wx)
def SS (st : Stmt) (f : Slots → M Fl) : Prop := ∀ X, Good m k c t sc N ow X → ∀ Wx, Takes X Wx → PS X st (rdS T m.K f Wx)
def SSs (st : List Stmt) (f : Slots → M Fl) : Prop := ∀ X, Good m k c t sc N ow X → ∀ Wx, Takes X Wx → PSs X st (rdS T m.K f Wx)
/-- operations by values -/
def S1 (op : UnaryOp) (g : W → M W) : Prop := ∀ X, Good m k c t sc N ow X → ∀ E, UnR X (unaryOp op) (r1 T m.K g E)
def S2 (op : Operator) (g : W → W → M W) : Prop := ∀ X, Good m k c t sc N ow X → ∀ E, OpR X (binaryOp op) (r2 T m.K g E)
def SI (op : Operator) (g : W → W → M W) : Prop := ∀ X, Good m k c t sc N ow X → ∀ E, OpR X (inplaceOp op) (r2 T m.K g E)
def SC (op : CmpOp) (g : W → W → M W) : Prop := ∀ X, Good m k c t sc N ow X → ∀ Wx, Takes X Wx → ∀ σ, ∀ (pins : List (Addr × Obj)) (s : Shared) (H : Hp) (x y : V) (v u : Value) (Q : VK), Inv X pins σ H s → RelV x v → RelV y u → r2 T m.K g (fun c d H => Wx c d σ H) x y H Q →
    wpAny (model X.prog X.w) X.A (compareOp op v u) (EP X pins σ Q) X.xe s
/-- a call of a known value -/
def SN (f : Value) (g : List W → M W) : Prop := ∀ X, Good m k c t sc N ow X → ∀ E, CallR X f (rN T m.K g E)
end

end RP
namespace L2
open PySem
theorem PE.imp {X : Cx} {e : Expr} {t t' : TE} (h : PE X e t) (i : ∀ σ H Q, t' σ H Q → t σ H Q) : PE X e t' := ⟨fun pins s σ H Q I q => h.run pins s σ H Q I (i σ H Q q)⟩
theorem PT.imp {X : Cx} {e : Expr} {t t' : TT} (h : PT X e t) (i : ∀ σ H Q, t' σ H Q → t σ H Q) : PT X e t' := ⟨fun pins s σ H Q I q => h.run pins s σ H Q I (i σ H Q q)⟩
theorem PW.imp {X : Cx} {e : Expr} {t t' : TT} (h : PW X e t) (i : ∀ σ H Q, t' σ H Q → t σ H Q) : PW X e t' := ⟨fun wh pins s σ H Q I q => h.run wh pins s σ H Q I (i σ H Q q)⟩
theorem PA.imp {X : Cx} {e : List Expr} {t t' : TA} (h : PA X e t) (i : ∀ σ H Q, t' σ H Q → t σ H Q) : PA X e t' := ⟨fun pos pins s σ H Q I q => h.run pos pins s σ H Q I (i σ H Q q)⟩
theorem PS.imp {X : Cx} {e : Stmt} {t t' : TS} (h : PS X e t) (i : ∀ D σ H, t' D σ H → t D σ H) : PS X e t' := ⟨fun pins s σ H D I q => h.run pins s σ H D I (i D σ H q)⟩
theorem PSs.imp {X : Cx} {e : List Stmt} {t t' : TS} (h : PSs X e t) (i : ∀ D σ H, t' D σ H → t D σ H) : PSs X e t' := ⟨fun pins s σ H D I q => h.run pins s σ H D I (i D σ H q)⟩

end L2
namespace RP
open PySem L2
section
variable {m : Mo} {T : Tab} {k : Nat} {c t : Bool} {sc : Scope} {N ow : List Str} {a b d : Expr} {fa fb fd : Slots → M W} {pos : Pos}
/-! ### names, constants -/
def getSl (i : Nat) (sl : Slots) : M W := fun S => match sl[i]? with
  | some (some w) => .ok w S
  | _ => .bad
theorem e_var (i : Nat) {x : Str} (hN : N[i]? = some x := by rfl) (hv : Vis sc x := by first | exact Or.inl rfl | exact Or.inr (Or.inl rfl) | exact Or.inr (Or.inr rfl)) (hd : (x == ("__debug__" : Str)) = false := by decide)
    (hcd : (x == ("__classdict__" : Str)) = false := by decide) : SE m T k c t sc N ow (.Name x pos) (getSl i) := fun X g Wx tk => by
  refine (pe_var (i := i) (by rw [g.hN]; exact hN) (by rw [g.hsc]; exact hv) hd hcd).imp fun σ H Q h => ?_
  obtain ⟨ad, S, sl, R, L, h⟩ := h
  unfold getSl at h
  split at h
  · rename_i w e
    obtain ⟨v, h1, h2⟩ := L.get i w e
    exact ⟨v, h1, run_ok R h2 h⟩
  · exact h.elim
theorem e_const {v : V} {w : W} {e : Expr} (h : ∀ X, Good m k c t sc N ow X → PE X e (tC v)) (r : ∀ ad H, RelW m.K ad H w v) : SE m T k c t sc N ow e (fun _ => ret w) := fun X g Wx tk => by
  refine (h X g).imp fun σ H Q h => ?_
  obtain ⟨ad, S, sl, R, L, h⟩ := h
  exact run_ok R (r ad H) h
theorem e_int {i : Int} {j : Nat} : SE m T k c t sc N ow (.Constant (.int i) j pos) (fun _ => ret (.int i)) := e_const (fun _ _ => pe_int) fun _ _ => .int i
theorem e_bl {i : Bool} {j : Nat} : SE m T k c t sc N ow (.Constant (.bool i) j pos) (fun _ => ret (.bl i)) := e_const (fun _ _ => pe_bl) fun _ _ => .bl i
theorem e_non {j : Nat} : SE m T k c t sc N ow (.Constant .none j pos) (fun _ => ret .non) := e_const (fun _ _ => pe_non) fun _ _ => .non
theorem e_str {x : Str} {j : Nat} : SE m T k c t sc N ow (.Constant (.str x) j pos) (fun _ => ret (.str x)) := e_const (fun _ _ => pe_str) fun _ _ => .str x
theorem gl_of {X : Cx} (g : Good m k c t sc N ow X) {x : Str} (h : sc.names.lookup x = some .globalImplicit) : Gl X x := by
  show X.env.scope.names.lookup x = _
  rw [g.hsc]
  exact h
theorem e_glob {x : Str} {v : V} {w : W} {u : Value} (hm : m.mg x = some u) (r : RelV v u) (rw' : ∀ ad H, RelW m.K ad H w v) (hg : sc.names.lookup x = some .globalImplicit := by rfl) (hd : (x == ("__debug__" : Str)) = false := by decide) :
    SE m T k c t sc N ow (.Name x pos) (fun _ => ret w) :=
  e_const (v := v) (fun X g => by
    have q := gl_of g hg
    obtain ⟨rfl, _⟩ := g
    exact pe_glob q hm r hd) rw'
/-! ### operators -/
theorem e_bin {op : Operator} {gg : W → W → M W} (ho : S2 m T k c t sc N ow op gg) (ha : SE m T k c t sc N ow a fa) (hb : SE m T k c t sc N ow b fb) :
    SE m T k c t sc N ow (.BinOp a op b pos) (fun sl => bd (fa sl) fun x => bd (fb sl) fun y => gg x y) := fun X g Wx tk => by
  refine ⟨fun pins s σ H Q I h => ?_⟩
  refine (pe_op (ho X g fun c d H' => Wx c d σ H') (ha X g Wx tk) (hb X g Wx tk)).run pins s σ H Q I ?_
  obtain ⟨ad, S, sl, R, L, h⟩ := h
  refine ⟨ad, S, sl, R, L, run_imp (run_bd h) ?_⟩
  rintro v H1 ⟨ad1, S1, w1, l1, R1, r1, h1⟩
  refine ⟨ad1, S1, sl, R1, L.mono l1, run_imp (run_bd h1) ?_⟩
  rintro u H2 ⟨ad2, S2, w2, l2, R2, r2, h2⟩
  exact ⟨ad2, S2, w1, w2, R2, r1.mono l2, r2, h2⟩
theorem e_un {op : UnaryOp} {gg : W → M W} (ho : S1 m T k c t sc N ow op gg) (ha : SE m T k c t sc N ow a fa) :
    SE m T k c t sc N ow (.UnaryOp op a pos) (fun sl => bd (fa sl) fun x => gg x) := fun X g Wx tk => by
  refine ⟨fun pins s σ H Q I h => ?_⟩
  refine (pe_un (ho X g fun c d H' => Wx c d σ H') (ha X g Wx tk)).run pins s σ H Q I ?_
  obtain ⟨ad, S, sl, R, L, h⟩ := h
  refine ⟨ad, S, sl, R, L, run_imp (run_bd h) ?_⟩
  rintro v H1 ⟨ad1, S1, w1, l1, R1, r1, h1⟩
  exact ⟨ad1, S1, w1, R1, r1, h1⟩
end
end RP

/-! RpC: operators and comparisons by values. -/
namespace RP
open PySem L2

section
variable {T : Tab} {K : PySem.W.Frag} {ad : List Addr} {H : Hp} {S : Sto} {Q : VK} {E : XK}
theorem same_new {p : Addr} {o : HO} (hp : H p = none) : Same H (upd H p o) := fun b u e => by
  rw [upd_ne (ne_of_none e hp)]
  exact e
/-- a new object -/
theorem run_alloc {p : Addr} {ho : HO} {o : Ob} (R : Rel T K ad H S) (hp : H p = none) (ro : RelOb T K (ad ++ [p]) (upd H p ho) p o) (h : run T K ad H (.ok (.ref S.length) (S ++ [o])) Q E) : Q (.ref p) (upd H p ho) :=
  h _ _ _ (Le.one (same_new hp) hp) (R.alloc (same_new hp) hp ro) (.ref (by rw [← R.len]; simp))
theorem run_newlst {p : Addr} {ws : List W} {vs : List V} (R : Rel T K ad H S) (hp : H p = none) (r : RelWs K ad H ws vs) (h : run T K ad H (.ok (.ref S.length) (S ++ [.lst ws])) Q E) : Q (.ref p) (upd H p (.lst vs)) :=
  run_alloc (o := .lst ws) R hp ⟨vs, upd_same, r.mono (Le.one (same_new hp) hp)⟩ h
/-- a new tuple -/
theorem run_newtup {p : Addr} {ws : List W} {vs : List V} (R : Rel T K ad H S) (hp : H p = none) (r : RelWs K ad H ws vs) (h : run T K ad H (.ok (.tup ws) S) Q E) : Q (.ref p) (upd H p (.tup vs)) :=
  have l : Le K ad H ad (upd H p (.tup vs)) := Le.same0 (same_new hp)
  h _ _ _ l (R.same (same_new hp)) (.tup (.inl (.inl upd_same)) (r.mono l))
theorem Rel.lst (R : Rel T K ad H S) {i : Nat} {a : Addr} {ws : List W} (e : ad[i]? = some a) (q : S[i]? = some (.lst ws)) : ∃ vs, H a = some (.lst vs) ∧ RelWs K ad H ws vs := R.ob i a _ e q
/-- a list that is read: a list of the state, or the script -/
def seqOf (S : Sto) (i : Nat) : Option (List W) := match S[i]? with
  | some (.lst ws) => some ws
  | some (.scr ns) => some (ns.map W.int)
  | _ => none
theorem relWs_ints (ns : List Int) : RelWs K ad H (ns.map W.int) (ns.map V.int) := by
  induction ns with
  | nil => exact .nil
  | cons n r ih => exact .cons (.int n) ih
theorem Rel.seq (R : Rel T K ad H S) {i : Nat} {a : Addr} {ws : List W} (e : ad[i]? = some a) (q : seqOf S i = some ws) : ∃ vs, SqL K H a vs ∧ RelWs K ad H ws vs := by
  unfold seqOf at q
  split at q
  · rename_i h
    cases q
    obtain ⟨vs, h1, h2⟩ := R.lst e h
    exact ⟨vs, SqL.of h1, h2⟩
  · rename_i h
    cases q
    obtain ⟨o, h1⟩ := R.ob i a _ e h
    exact ⟨_, .inl (.inr ⟨o, h1⟩), relWs_ints _⟩
  · cases q
theorem Rel.lnd {i : Nat} {a : Addr} {ws : List W} (R : Rel T K ad H S) (e : ad[i]? = some a) (q : S[i]? = some (.lst ws)) : ∀ o u, H a ≠ some (.frz o (.tup u)) := fun o u z => by
  obtain ⟨vs, h1, _⟩ := R.lst e q
  rw [h1] at z; cases z
end

/-! ### arithmetic -/
def small64 (i : Int) : Bool := decide (-(2 ^ 64) < i ∧ i < 2 ^ 64)
def pyAdd (x y : W) : M W := fun S => match x, y with
  | .int i, .int j => .ok (.int (i + j)) S
  | .str a, .str b => if a.length + b.length ≤ sizeLine then .ok (.str (a ++ b)) S else .bad
  | .ref i, .ref j => match S[i]?, S[j]? with
    | some (.lst xs), some (.lst ys) => if xs.length + ys.length ≤ sizeLine then .ok (.ref S.length) (S ++ [.lst (xs ++ ys)]) else .bad
    | _, _ => .bad
  | .tup xs, .tup ys => if xs.length + ys.length ≤ sizeLine then .ok (.tup (xs ++ ys)) S else .bad
  | _, _ => .bad
def pySub (x y : W) : M W := fun S => match x, y with
  | .int i, .int j => .ok (.int (i - j)) S
  | _, _ => .bad
def pyMul (x y : W) : M W := fun S => match x, y with
  | .int i, .int j => if small64 i || small64 j then .ok (.int (i * j)) S else .bad
  | .ref i, .int n => match S[i]? with
    | some (.lst xs) => if -(2 ^ 63) ≤ n ∧ n < 2 ^ 63 ∧ xs.length * n.toNat ≤ sizeLine then .ok (.ref S.length) (S ++ [.lst (List.replicate n.toNat xs).flatten]) else .bad
    | _ => .bad
  | _, _ => .bad
def pyFdiv (x y : W) : M W := fun S => match x, y with
  | .int i, .int j => if 0 < j ∧ j < 1152921504606846976 then .ok (.int (i / j)) S else .bad
  | _, _ => .bad
def pyMod (x y : W) : M W := fun S => match x, y with
  | .int i, .int j => if 0 < j then .ok (.int (i % j)) S else .bad
  | _, _ => .bad
def pyPow (x y : W) : M W := fun S => match x, y with
  | .int i, .int j => if 0 ≤ j ∧ j ≤ 1000000 ∧ i.natAbs < 2 ^ 64 then .ok (.int (i ^ j.toNat)) S else .bad
  | _, _ => .bad
def pyNeg (x : W) : M W := fun S => match x with
  | .int i => .ok (.int (-i)) S
  | _ => .bad

theorem opFdivW {X : Cx} : OpR X (binaryOp .FloorDiv) (rI (fun _ j => 0 < j ∧ j < 1152921504606846976) fun i j => .int (i / j)) := opI fun i j _ _ _ _ _ hc q => by
  have h1 : (0 : Int) < j := hc.1
  have h2 : j < 1152921504606846976 := hc.2
  refine PyProof.Rows.floordiv_int (by omega) (by rw [Int.fdiv_eq_ediv_of_nonneg i (by omega)]; exact q) (.inl (PyProof.noPylong_of_log2 ?_))
  have h3 : j.natAbs < 2 ^ 60 := by
    rw [show (2 : Nat) ^ 60 = 1152921504606846976 by decide]
    omega
  have := (Nat.log2_lt (n := j.natAbs) (k := 60) (by omega)).mpr h3
  omega
section
variable {m : Mo} {T : Tab} {k : Nat} {c t : Bool} {sc : Scope} {N ow : List Str}
theorem relWs_rep {K : PySem.W.Frag} {ad : List Addr} {H : Hp} {ws : List W} {vs : List V} (r : RelWs K ad H ws vs) : ∀ n : Nat, RelWs K ad H (List.replicate n ws).flatten (List.replicate n vs).flatten
  | 0 => .nil
  | n + 1 => by
    rw [List.replicate_succ, List.replicate_succ, List.flatten_cons, List.flatten_cons]
    exact r.append (relWs_rep r n)
theorem o_add : S2 m T k c t sc N ow .Add pyAdd := by
  intro X g E pins s σ H x y v u Q I rx ry ⟨ad, S, w, z, R, rw, rz, h⟩
  obtain ⟨rfl, _⟩ := g
  unfold pyAdd at h
  split at h
  · cases rw; cases rz
    exact op_add pins s σ H _ _ v u Q I rx ry ⟨_, _, rfl, rfl, run_ok R (.int _) h⟩
  · split at h
    · cases rw; cases rz
      exact op_add_str pins s σ H _ _ v u Q I rx ry ⟨_, _, rfl, rfl, by assumption, run_ok R (.str _) h⟩
    · exact h.elim
  · rename_i i j
    cases rw with
    | ref e1 =>
    cases rz with
    | ref e2 =>
    split at h
    · rename_i xs ys h1 h2
      split at h
      · rename_i hl
        obtain ⟨vs, q1, r1⟩ := R.lst e1 h1
        obtain ⟨us, q2, r2⟩ := R.lst e2 h2
        exact op_cat pins s σ H _ _ v u Q I rx ry ⟨_, _, vs, us, rfl, rfl, q1, q2, by rw [← r1.length, ← r2.length]; exact hl, fun p hp => run_newlst R hp (r1.append r2) h⟩
      · exact h.elim
    · exact h.elim
  · rename_i xs ys
    cases rw with
    | tup s1 r1 =>
    cases rz with
    | tup s2 r2 =>
    split at h
    · rename_i hl
      refine op_catA pins s σ H _ _ v u Q I rx ry ⟨_, _, _, _, rfl, rfl, s1, s2, by rw [← r1.length, ← r2.length]; exact hl, fun z => ?_, fun _ z => ?_, fun _ _ p hp => run_newtup R hp (r1.append r2) h⟩
      · have z1 : xs = [] := List.eq_nil_of_length_eq_zero (by rw [r1.length, z]; rfl)
        subst z1
        exact run_ok R (.tup s2 r2) h
      · have z2 : ys = [] := List.eq_nil_of_length_eq_zero (by rw [r2.length, z]; rfl)
        subst z2
        rw [List.append_nil] at h
        exact run_ok R (.tup s1 r1) h
    · exact h.elim
  · exact h.elim
theorem o_sub : S2 m T k c t sc N ow .Sub pySub := by
  intro X g E pins s σ H x y v u Q I rx ry ⟨ad, S, w, z, R, rw, rz, h⟩
  obtain ⟨rfl, _⟩ := g
  unfold pySub at h
  split at h
  · cases rw; cases rz
    exact op_sub pins s σ H _ _ v u Q I rx ry ⟨_, _, rfl, rfl, run_ok R (.int _) h⟩
  · exact h.elim
theorem o_mul : S2 m T k c t sc N ow .Mult pyMul := by
  intro X g E pins s σ H x y v u Q I rx ry ⟨ad, S, w, z, R, rw, rz, h⟩
  obtain ⟨rfl, _⟩ := g
  unfold pyMul at h
  split at h
  · split at h
    · rename_i hs
      cases rw; cases rz
      refine op_mul pins s σ H _ _ v u Q I rx ry ⟨_, _, rfl, rfl, ?_, run_ok R (.int _) h⟩
      simp only [Bool.or_eq_true, small64, decide_eq_true_eq] at hs
      exact hs
    · exact h.elim
  · rename_i i n
    cases rw with
    | ref e1 =>
    cases rz
    split at h
    · rename_i xs h1
      split at h
      · rename_i hl
        obtain ⟨vs, q1, r1⟩ := R.lst e1 h1
        exact op_rep pins s σ H _ _ v u Q I rx ry ⟨_, _, vs, rfl, rfl, q1, hl.1, hl.2.1, by rw [← r1.length]; exact hl.2.2, fun p hp => run_newlst R hp (relWs_rep r1 _) h⟩
      · exact h.elim
    · exact h.elim
  · exact h.elim
theorem o_fdiv : S2 m T k c t sc N ow .FloorDiv pyFdiv := by
  intro X g E pins s σ H x y v u Q I rx ry ⟨ad, S, w, z, R, rw, rz, h⟩
  obtain ⟨rfl, _⟩ := g
  unfold pyFdiv at h
  split at h
  · split at h
    · rename_i hs
      cases rw; cases rz
      exact opFdivW pins s σ H _ _ v u Q I rx ry ⟨_, _, rfl, rfl, hs, run_ok R (.int _) h⟩
    · exact h.elim
  · exact h.elim
theorem o_mod : S2 m T k c t sc N ow .Mod pyMod := by
  intro X g E pins s σ H x y v u Q I rx ry ⟨ad, S, w, z, R, rw, rz, h⟩
  obtain ⟨rfl, _⟩ := g
  unfold pyMod at h
  split at h
  · split at h
    · rename_i hs
      cases rw; cases rz
      exact op_mod pins s σ H _ _ v u Q I rx ry ⟨_, _, rfl, rfl, hs, run_ok R (.int _) h⟩
    · exact h.elim
  · exact h.elim
theorem o_pow : S2 m T k c t sc N ow .Pow pyPow := by
  intro X g E pins s σ H x y v u Q I rx ry ⟨ad, S, w, z, R, rw, rz, h⟩
  obtain ⟨rfl, _⟩ := g
  unfold pyPow at h
  split at h
  · split at h
    · rename_i hs
      cases rw; cases rz
      exact op_pow pins s σ H _ _ v u Q I rx ry ⟨_, _, rfl, rfl, hs, run_ok R (.int _) h⟩
    · exact h.elim
  · exact h.elim
theorem o_neg : S1 m T k c t sc N ow .USub pyNeg := by
  intro X g E pins s σ H x v Q I rx ⟨ad, S, w, R, rw, h⟩
  obtain ⟨rfl, _⟩ := g
  unfold pyNeg at h
  split at h
  · cases rw
    exact un_neg pins s σ H _ v Q I rx ⟨_, rfl, run_ok R (.int _) h⟩
  · exact h.elim
theorem i_add : SI m T k c t sc N ow .Add (fun x y S => match x, y with | .int i, .int j => .ok (.int (i + j)) S | _, _ => .bad) := by
  intro X g E pins s σ H x y v u Q I rx ry ⟨ad, S, w, z, R, rw, rz, h⟩
  obtain ⟨rfl, _⟩ := g
  dsimp only at h
  split at h
  · cases rw; cases rz
    exact iop_add pins s σ H _ _ v u Q I rx ry ⟨_, _, rfl, rfl, run_ok R (.int _) h⟩
  · exact h.elim
theorem i_mul : SI m T k c t sc N ow .Mult (fun x y S => match x, y with | .int i, .int j => if small64 i || small64 j then .ok (.int (i * j)) S else .bad | _, _ => .bad) := by
  intro X g E pins s σ H x y v u Q I rx ry ⟨ad, S, w, z, R, rw, rz, h⟩
  obtain ⟨rfl, _⟩ := g
  dsimp only at h
  split at h
  · split at h
    · rename_i hs
      cases rw; cases rz
      refine iop_mul pins s σ H _ _ v u Q I rx ry ⟨_, _, rfl, rfl, ?_, run_ok R (.int _) h⟩
      simp only [Bool.or_eq_true, small64, decide_eq_true_eq] at hs
      exact hs
    · exact h.elim
  · exact h.elim
end

/-! ### comparisons -/
/-- the data of a value -/
def dat : Nat → Sto → W → Option PyData
  | _, _, .non => some .none
  | _, _, .bl b => some (.bool b)
  | _, _, .int i => some (.int i)
  | _, _, .str x => some (.str x)
  | n + 1, S, .tup xs => (xs.mapM (dat n S)).map PyData.tuple
  | n + 1, S, .ref i => match S[i]? with
    | some (.lst xs) => (xs.mapM (dat n S)).map PyData.list
    | _ => none
  | _, _, _ => none
section
variable {T : Tab} {K : PySem.W.Frag} {ad : List Addr} {H : Hp} {S : Sto}
theorem dat_all {n : Nat} (ih : ∀ (w : W) (v : V) (d : PyData), dat n S w = some d → RelW K ad H w v → Dp K H v d) : ∀ {ws : List W} {vs : List V} {ds : List PyData}, ws.mapM (dat n S) = some ds → RelWs K ad H ws vs → DpAll K H vs ds
  | [], _, _, h, .nil => by simp at h; subst h; exact .nil
  | w :: ws, _, ds, h, .cons r rr => by
    rw [List.mapM_cons] at h
    cases q : dat n S w with
    | none => rw [q] at h; cases h
    | some d =>
      cases q2 : ws.mapM (dat n S) with
      | none => rw [q, q2] at h; cases h
      | some ds' =>
        rw [q, q2] at h
        cases h
        exact .cons (ih _ _ _ q r) (dat_all ih q2 rr)
theorem dat_dp (R : Rel T K ad H S) : ∀ (n : Nat) (w : W) (v : V) (d : PyData), dat n S w = some d → RelW K ad H w v → Dp K H v d := by
  intro n
  induction n with
  | zero =>
    intro w v d h r
    cases w <;> first | (unfold dat at h; cases h; cases r; constructor) | (unfold dat at h; cases h)
  | succ n ih =>
    intro w v d h r
    cases w with
    | tup xs =>
      unfold dat at h
      cases q : xs.mapM (dat n S) with
      | none => rw [q] at h; cases h
      | some ds =>
        rw [q] at h; cases h
        cases r with
        | tup s1 r1 => exact .tup s1 (dat_all ih q r1)
    | ref i =>
      unfold dat at h
      split at h
      · rename_i xs e
        cases q : xs.mapM (dat n S) with
        | none => rw [q] at h; cases h
        | some ds =>
          rw [q] at h; cases h
          cases r with
          | ref e1 =>
          obtain ⟨vs, h1, r1⟩ := R.lst e1 e
          exact .lst (SqL.of h1) (dat_all ih q r1)
      · cases h
    | _ => first | (unfold dat at h; cases h; cases r; constructor) | (unfold dat at h; cases h)
end
/-- x == y of flat things, of data -/
def eqW (S : Sto) : W → W → Option Bool
  | .int i, .int j => some (decide (i = j))
  | .str a, .str b => some (decide (a = b))
  | .bl a, .bl b => some (decide (a = b))
  | .non, .non => some true
  | .non, .int _ => some false
  | .int _, .non => some false
  | .non, .bl _ => some false
  | .bl _, .non => some false
  | .non, .str _ => some false
  | .str _, .non => some false
  | .int _, .str _ => some false
  | .str _, .int _ => some false
  | .bl _, .str _ => some false
  | .str _, .bl _ => some false
  | x, y => match dat 9 S x, dat 9 S y with
    | some d, some e => if SeqAt.shaped d && SeqAt.shaped e then some (PyData.eqv d e) else none
    | _, _ => none
def pyEq (x y : W) : M W := fun S => match eqW S x y with
  | some b => .ok (.bl b) S
  | none => .bad
def pyNe (x y : W) : M W := fun S => match eqW S x y with
  | some b => .ok (.bl (!b)) S
  | none => .bad
def pyLt (x y : W) : M W := fun S => match x, y with
  | .int i, .int j => .ok (.bl (decide (i < j))) S
  | _, _ => .bad
def pyLe (x y : W) : M W := fun S => match x, y with
  | .int i, .int j => .ok (.bl (decide (i ≤ j))) S
  | _, _ => .bad
def pyGt (x y : W) : M W := fun S => match x, y with
  | .int i, .int j => .ok (.bl (decide (j < i))) S
  | _, _ => .bad
def pyGe (x y : W) : M W := fun S => match x, y with
  | .int i, .int j => .ok (.bl (decide (j ≤ i))) S
  | _, _ => .bad
def isNon : W → Bool
  | .non => true
  | _ => false
def pyIs (x y : W) : M W := fun S => if isNon y then .ok (.bl (isNon x)) S else .bad
def pyIsNot (x y : W) : M W := fun S => if isNon y then .ok (.bl (!isNon x)) S else .bad
section
variable {m : Mo} {T : Tab} {k : Nat} {c t : Bool} {sc : Scope} {N ow : List Str}
theorem SC.of {op : CmpOp} {gg : W → W → M W} (h : ∀ X, Good m k c t sc N ow X → ∀ E, OpR X (compareOp op) (r2 T m.K gg E)) : SC m T k c t sc N ow op gg := fun X g Wx tk σ pins s H x y v u Q I rx ry h' => h X g _ pins s σ H x y v u Q I rx ry h'
theorem eqW_rule {X : Cx} (hu : X.A.units + 64 < cLine) {ad : List Addr} {H : Hp} {S : Sto} {x y : W} {v u : V} {b : Bool} {Q : VK} (R : Rel T X.K ad H S) (rx : RelW X.K ad H x v) (ry : RelW X.K ad H y u) (e : eqW S x y = some b) (h : Q (.bl b) H) :
    rEq v u H Q ∨ rEqD X.K v u H Q := by
  unfold eqW at e
  split at e <;> first
    | (cases e; cases rx; cases ry; left; refine ⟨rfl, ?_⟩; simpa using h)
    | skip
  split at e
  · rename_i d e' h1 h2
    split at e
    · rename_i hs
      cases e
      simp only [Bool.and_eq_true] at hs
      exact .inr ⟨d, e', dat_dp R _ _ _ _ h1 rx, dat_dp R _ _ _ _ h2 ry, hs.1, hs.2, h⟩
    · cases e
  · cases e
theorem eqW_ruleN {X : Cx} (hu : X.A.units + 64 < cLine) {ad : List Addr} {H : Hp} {S : Sto} {x y : W} {v u : V} {b : Bool} {Q : VK} (R : Rel T X.K ad H S) (rx : RelW X.K ad H x v) (ry : RelW X.K ad H y u) (e : eqW S x y = some b) (h : Q (.bl (!b)) H) :
    rNe v u H Q ∨ rNeD X.K v u H Q := by
  unfold eqW at e
  split at e <;> first
    | (cases e; cases rx; cases ry; left; refine ⟨rfl, ?_⟩; simpa using h)
    | skip
  split at e
  · rename_i d e' h1 h2
    split at e
    · rename_i hs
      cases e
      simp only [Bool.and_eq_true] at hs
      exact .inr ⟨d, e', dat_dp R _ _ _ _ h1 rx, dat_dp R _ _ _ _ h2 ry, hs.1, hs.2, h⟩
    · cases e
  · cases e
theorem c_eq : SC m T k c t sc N ow .Eq pyEq := .of fun X g E pins s σ H x y v u Q I rx ry ⟨ad, S, w, z, R, rw, rz, h⟩ => by
  have hu := g.un
  obtain ⟨rfl, _⟩ := g
  unfold pyEq at h
  split at h
  · rename_i b e
    exact (op_eq.or (op_eqD hu)) pins s σ H x y v u Q I rx ry (eqW_rule hu R rw rz e (run_ok R (.bl b) h))
  · exact h.elim
theorem c_ne : SC m T k c t sc N ow .NotEq pyNe := .of fun X g E pins s σ H x y v u Q I rx ry ⟨ad, S, w, z, R, rw, rz, h⟩ => by
  have hu := g.un
  obtain ⟨rfl, _⟩ := g
  unfold pyNe at h
  split at h
  · rename_i b e
    exact (op_ne.or (op_neD hu)) pins s σ H x y v u Q I rx ry (eqW_ruleN hu R rw rz e (run_ok R (.bl _) h))
  · exact h.elim
theorem c_lt : SC m T k c t sc N ow .Lt pyLt := .of fun X g E pins s σ H x y v u Q I rx ry ⟨ad, S, w, z, R, rw, rz, h⟩ => by
  obtain ⟨rfl, _⟩ := g
  unfold pyLt at h
  split at h
  · cases rw; cases rz
    exact op_lt pins s σ H _ _ v u Q I rx ry ⟨_, _, rfl, rfl, run_ok R (.bl _) h⟩
  · exact h.elim
theorem c_le : SC m T k c t sc N ow .LtE pyLe := .of fun X g E pins s σ H x y v u Q I rx ry ⟨ad, S, w, z, R, rw, rz, h⟩ => by
  obtain ⟨rfl, _⟩ := g
  unfold pyLe at h
  split at h
  · cases rw; cases rz
    exact op_le pins s σ H _ _ v u Q I rx ry ⟨_, _, rfl, rfl, run_ok R (.bl _) h⟩
  · exact h.elim
theorem c_gt : SC m T k c t sc N ow .Gt pyGt := .of fun X g E pins s σ H x y v u Q I rx ry ⟨ad, S, w, z, R, rw, rz, h⟩ => by
  obtain ⟨rfl, _⟩ := g
  unfold pyGt at h
  split at h
  · cases rw; cases rz
    exact op_gt pins s σ H _ _ v u Q I rx ry ⟨_, _, rfl, rfl, run_ok R (.bl _) h⟩
  · exact h.elim
theorem c_ge : SC m T k c t sc N ow .GtE pyGe := .of fun X g E pins s σ H x y v u Q I rx ry ⟨ad, S, w, z, R, rw, rz, h⟩ => by
  obtain ⟨rfl, _⟩ := g
  unfold pyGe at h
  split at h
  · cases rw; cases rz
    exact op_ge pins s σ H _ _ v u Q I rx ry ⟨_, _, rfl, rfl, run_ok R (.bl _) h⟩
  · exact h.elim
theorem isNon_iff {K : PySem.W.Frag} {ad : List Addr} {H : Hp} {w : W} {v : V} (r : RelW K ad H w v) : isNon w = decide (v = .non) := by cases r <;> rfl
theorem c_is : SC m T k c t sc N ow .Is pyIs := .of fun X g E pins s σ H x y v u Q I rx ry ⟨ad, S, w, z, R, rw, rz, h⟩ => by
  obtain ⟨rfl, _⟩ := g
  unfold pyIs at h
  split at h
  · rename_i hz
    have ez : y = .non := by rw [isNon_iff rz] at hz; simpa using hz
    refine op_isN pins s σ H _ _ v u Q I rx ry ⟨ez, ?_⟩
    rw [← isNon_iff rw]
    exact run_ok R (.bl _) h
  · exact h.elim
theorem c_isnot : SC m T k c t sc N ow .IsNot pyIsNot := .of fun X g E pins s σ H x y v u Q I rx ry ⟨ad, S, w, z, R, rw, rz, h⟩ => by
  obtain ⟨rfl, _⟩ := g
  unfold pyIsNot at h
  split at h
  · rename_i hz
    have ez : y = .non := by rw [isNon_iff rz] at hz; simpa using hz
    refine op_notN pins s σ H _ _ v u Q I rx ry ⟨ez, ?_⟩
    rw [← isNon_iff rw]
    exact run_ok R (.bl _) h
  · exact h.elim
end

/-! ### in -/
/-- a sign or text within a text -/
def inStr (a b : Str) : Bool := !(Builtin.Str.occurrences b a 0 b.length 1).isEmpty
def flatW : W → Bool
  | .non => true
  | .bl _ => true
  | .int _ => true
  | .str _ => true
  | _ => false
def eqF : W → W → Bool
  | .non, .non => true
  | .bl a, .bl b => a == b
  | .bl a, .int b => (if a then 1 else 0) == b
  | .int a, .bl b => a == (if b then 1 else 0)
  | .int a, .int b => a == b
  | .str a, .str b => a == b
  | _, _ => false
def inF (x : W) (xs : List W) : Option Bool := if flatW x && xs.all flatW then some (xs.any fun y => eqF y x) else none
/-- x in y -/
def inW (S : Sto) (x y : W) : Option Bool := match x, y with
  | .str a, .str b => some (inStr a b)
  | x, .tup ys => inF x ys
  | x, .ref i => match S[i]? with
    | some (.lst ys) => inF x ys
    | some (.dct kvs) => match x with
      | .int n => some (kvs.any fun p => p.1 == .inl n)
      | .str z => some (kvs.any fun p => p.1 == .inr z)
      | _ => none
    | _ => none
  | _, _ => none
section
variable {K : PySem.W.Frag} {ad : List Addr} {H : Hp}
theorem flat_of {w : W} {v : V} (r : RelW K ad H w v) : flatV v = flatW w := by cases r <;> rfl
theorem eqF_of {w z : W} {v u : V} (r : RelW K ad H w v) (q : RelW K ad H z u) : eqV v u = eqF w z := by cases r <;> cases q <;> rfl
theorem flats_of : ∀ {ws : List W} {vs : List V}, RelWs K ad H ws vs → vs.all flatV = ws.all flatW
  | _, _, .nil => rfl
  | _, _, .cons r t => by rw [List.all_cons, List.all_cons, flat_of r, flats_of t]
theorem inV_of {w : W} {v : V} (r : RelW K ad H w v) : ∀ {ws : List W} {vs : List V}, RelWs K ad H ws vs → inV v vs = ws.any fun y => eqF y w
  | _, _, .nil => rfl
  | _, _, .cons q t => by
    have ih := inV_of r t
    unfold inV at ih ⊢
    rw [List.any_cons, List.any_cons, eqF_of q r, ih]
end
end RP

/-! RpD: comparisons, tests, arguments, displays, plain statements. -/
namespace RP
open PySem L2

/-! ### in, dicts -/
def lookK (kvs : List (Key × W)) (k : Key) : Option W := (kvs.find? fun kv => decide (kv.1 = k)).map (·.2)
def putKW (kvs : List (Key × W)) (k : Key) (w : W) : List (Key × W) :=
  if (kvs.any fun kv => decide (kv.1 = k)) = true then kvs.map (fun kv => if kv.1 = k then (kv.1, w) else kv) else kvs ++ [(k, w)]
def keyOf : W → Option Key
  | .int n => some (.inl n)
  | .str z => some (.inr z)
  | _ => none
section
variable {T : Tab} {K : PySem.W.Frag} {ad : List Addr} {H : Hp} {S : Sto}
theorem keyOf_rel {w : W} {v : V} {k : Key} (e : keyOf w = some k) (r : RelW K ad H w v) : v = kV k := by
  cases w <;> simp only [keyOf] at e <;> cases e <;> cases r <;> rfl
theorem look_rel {k : Key} : ∀ {kvs : List (Key × W)} {vs : List V}, RelWs K ad H (kvs.map (·.2)) vs →
    (lookK kvs k = none ∧ valV ((kvs.map (·.1)).zip vs) k = none) ∨ ∃ w v, lookK kvs k = some w ∧ valV ((kvs.map (·.1)).zip vs) k = some v ∧ RelW K ad H w v
  | [], _, .nil => .inl ⟨rfl, rfl⟩
  | p :: r, _, .cons q t => by
    by_cases h : p.1 = k
    · refine .inr ⟨p.2, _, by simp [lookK, h], ?_, q⟩
      rw [List.map_cons, List.zip_cons_cons, valV_pos h]
    · rw [List.map_cons, List.zip_cons_cons, valV_neg h]
      have e : lookK (p :: r) k = lookK r k := by simp [lookK, h]
      rw [e]
      exact look_rel t
theorem any_rel {k : Key} : ∀ {kvs : List (Key × W)} {vs : List V}, RelWs K ad H (kvs.map (·.2)) vs →
    (((kvs.map (·.1)).zip vs).any fun kv => decide (kv.1 = k)) = kvs.any fun kv => decide (kv.1 = k)
  | [], _, .nil => rfl
  | p :: r, _, .cons q t => by
    rw [List.map_cons, List.zip_cons_cons, List.any_cons, List.any_cons, any_rel t]
theorem putK_rel {k : Key} {w : W} {v : V} (rw' : RelW K ad H w v) {kvs : List (Key × W)} {vs : List V} (r : RelWs K ad H (kvs.map (·.2)) vs) :
    ∃ us, putK ((kvs.map (·.1)).zip vs) k v = ((putKW kvs k w).map (·.1)).zip us ∧ RelWs K ad H ((putKW kvs k w).map (·.2)) us := by
  unfold putK putKW
  rw [any_rel r]
  split
  · suffices h : ∀ {kvs : List (Key × W)} {vs : List V}, RelWs K ad H (kvs.map (·.2)) vs →
        ∃ us, ((kvs.map (·.1)).zip vs).map (fun kv => if kv.1 = k then (kv.1, v) else kv) = ((kvs.map (fun kv => if kv.1 = k then (kv.1, w) else kv)).map (·.1)).zip us ∧
          RelWs K ad H ((kvs.map (fun kv => if kv.1 = k then (kv.1, w) else kv)).map (·.2)) us from h r
    intro kvs
    induction kvs with
    | nil => intro vs r; cases r; exact ⟨[], rfl, .nil⟩
    | cons p q ih =>
      intro vs r
      cases r with
      | @cons _ v' _ vs' r t =>
      obtain ⟨us, h1, h2⟩ := ih t
      by_cases hk : p.1 = k
      · refine ⟨v :: us, ?_, ?_⟩
        · simp only [List.map_cons, List.zip_cons_cons, if_pos hk, h1]
        · simp only [List.map_cons, if_pos hk]
          exact .cons rw' h2
      · refine ⟨v' :: us, ?_, ?_⟩
        · simp only [List.map_cons, List.zip_cons_cons, if_neg hk, h1]
        · simp only [List.map_cons, if_neg hk]
          exact .cons r h2
  · refine ⟨vs ++ [v], ?_, ?_⟩
    · rw [List.map_append, List.zip_append (by rw [← r.length]; simp)]
      rfl
    · rw [List.map_append]
      exact r.append (.cons rw' .nil)
end
def inW' (S : Sto) (x y : W) : Option Bool := match y with
  | .str b => match x with
    | .str a => some (inStr a b)
    | _ => none
  | .tup ys => inF x ys
  | .ref i => match S[i]? with
    | some (.lst ys) => inF x ys
    | some (.dct kvs) => (keyOf x).map fun k => (lookK kvs k).isSome
    | _ => none
  | _ => none
def pyIn (x y : W) : M W := fun S => match inW' S x y with
  | some b => .ok (.bl b) S
  | none => .bad
def pyNotIn (x y : W) : M W := fun S => match inW' S x y with
  | some b => .ok (.bl (!b)) S
  | none => .bad
section
variable {m : Mo} {T : Tab} {k : Nat} {c t : Bool} {sc : Scope} {N ow : List Str}
theorem inF_rule {X : Cx} {ad : List Addr} {H : Hp} {x : W} {v : V} {ws : List W} {vs : List V} {b neg : Bool} {p : Addr} {Q : VK} (rx : RelW X.K ad H x v) (r : RelWs X.K ad H ws vs) (q : SqL X.K H p vs ∨ SqT X.K H p vs) (e : inF x ws = some b)
    (h : Q (.bl (if neg then !b else b)) H) : rIn X.K neg v (.ref p) H Q := by
  unfold inF at e
  split at e
  · rename_i hf
    cases e
    simp only [Bool.and_eq_true] at hf
    refine ⟨p, vs, rfl, q, by rw [flat_of rx]; exact hf.1, by rw [flats_of r]; exact hf.2, ?_⟩
    rw [inV_of rx r]
    exact h
  · cases e
theorem c_in : SC m T k c t sc N ow .In pyIn := .of fun X g E pins s σ H x y v u Q I rx ry ⟨ad, S, w, z, R, rw', rz, h⟩ => by
  have hu : X.A.units + 1 < cLine := by have := g.un; omega
  obtain ⟨rfl, _⟩ := g
  unfold pyIn at h
  split at h
  · rename_i b e
    have h := run_ok R (.bl b) h
    unfold inW' at e
    split at e
    · split at e
      · cases e; cases rw'; cases rz
        exact op_in_str pins s σ H _ _ v u Q I rx ry ⟨_, _, rfl, rfl, h⟩
      · cases e
    · cases rz with
      | tup s1 r1 => exact op_in_seq pins s σ H _ _ v u Q I rx ry (inF_rule (neg := false) rw' r1 (.inr s1) e h)
    · cases rz with
      | ref e1 =>
      split at e
      · rename_i ys h1
        obtain ⟨vs, q1, r1⟩ := R.lst e1 h1
        exact op_in_seq pins s σ H _ _ v u Q I rx ry (inF_rule (neg := false) rw' r1 (.inl (SqL.of q1)) e h)
      · rename_i kvs h1
        obtain ⟨vs, q1, r1⟩ := R.ob _ _ _ e1 h1
        cases hk : keyOf w with
        | none => rw [hk] at e; cases e
        | some kk =>
          rw [hk] at e
          cases e
          obtain rfl : u = Value.ref _ := ry
          have hv := keyOf_rel hk rw'
          subst hv
          refine d_in hu I (DGet.k (k := kk) q1) rx fun s' I' => ⟨.bl _, H, I', rfl, ?_⟩
          rcases look_rel (k := kk) r1 with ⟨a1, a2⟩ | ⟨w', v', a1, a2, _⟩
          · dsimp only at h; rw [a2]; rw [a1] at h; exact h
          · dsimp only at h; rw [a2]; rw [a1] at h; exact h
      · cases e
    · cases e
  · exact h.elim
theorem c_notin : SC m T k c t sc N ow .NotIn pyNotIn := .of fun X g E pins s σ H x y v u Q I rx ry ⟨ad, S, w, z, R, rw', rz, h⟩ => by
  have hu : X.A.units + 1 < cLine := by have := g.un; omega
  obtain ⟨rfl, _⟩ := g
  unfold pyNotIn at h
  split at h
  · rename_i b e
    have h := run_ok R (.bl _) h
    unfold inW' at e
    split at e
    · split at e
      · cases e; cases rw'; cases rz
        exact op_notin_str pins s σ H _ _ v u Q I rx ry ⟨_, _, rfl, rfl, h⟩
      · cases e
    · cases rz with
      | tup s1 r1 => exact op_notIn_seq pins s σ H _ _ v u Q I rx ry (inF_rule (neg := true) rw' r1 (.inr s1) e h)
    · cases rz with
      | ref e1 =>
      split at e
      · rename_i ys h1
        obtain ⟨vs, q1, r1⟩ := R.lst e1 h1
        exact op_notIn_seq pins s σ H _ _ v u Q I rx ry (inF_rule (neg := true) rw' r1 (.inl (SqL.of q1)) e h)
      · rename_i kvs h1
        obtain ⟨vs, q1, r1⟩ := R.ob _ _ _ e1 h1
        cases hk : keyOf w with
        | none => rw [hk] at e; cases e
        | some kk =>
          rw [hk] at e
          cases e
          obtain rfl : u = Value.ref _ := ry
          have hv := keyOf_rel hk rw'
          subst hv
          refine d_notIn hu I (DGet.k (k := kk) q1) rx fun s' I' => ⟨.bl _, H, I', rfl, ?_⟩
          rcases look_rel (k := kk) r1 with ⟨a1, a2⟩ | ⟨w', v', a1, a2, _⟩
          · dsimp only at h; rw [a2]; rw [a1] at h; exact h
          · dsimp only at h; rw [a2]; rw [a1] at h; exact h
      · cases e
    · cases e
  · exact h.elim
end

section
variable {m : Mo} {T : Tab} {k : Nat} {c t : Bool} {sc : Scope} {N ow : List Str} {a b d : Expr} {fa fb fd : Slots → M W} {ga gb : Slots → M Bool} {pos : Pos} {rest : List Expr}
/-! ### comparisons as expressions, as tests -/
theorem pc_of {op : CmpOp} {gg : W → W → M W} (ho : SC m T k c t sc N ow op gg) (ha : SE m T k c t sc N ow a fa) (hb : SE m T k c t sc N ow b fb) {X : Cx} (g : Good m k c t sc N ow X) {Wx : WX} (tk : Takes X Wx) :
    PC X op a b (rd T m.K (fun sl => bd (fa sl) fun x => bd (fb sl) fun y => gg x y) Wx) := by
  refine ⟨fun pins s σ H Q I h => ?_⟩
  obtain ⟨ad, S, sl, R, L, h⟩ := h
  refine thn ((ha X g Wx tk).run pins s σ H _ I ⟨ad, S, sl, R, L, run_bd h⟩) ?_
  rintro v s1 ⟨x, H1, I1, rx, ad1, S1, w1, l1, R1, r1, h1⟩
  refine thn ((hb X g Wx tk).run pins s1 σ H1 _ I1 ⟨ad1, S1, sl, R1, L.mono l1, run_bd h1⟩) ?_
  rintro u s2 ⟨y, H2, I2, ry, ad2, S2, w2, l2, R2, r2, h2⟩
  exact ho X g Wx tk σ pins s2 H2 x y v u Q I2 rx ry ⟨ad2, S2, w1, w2, R2, r1.mono l2, r2, h2⟩
theorem e_cmp {op : CmpOp} {gg : W → W → M W} (ho : SC m T k c t sc N ow op gg) (ha : SE m T k c t sc N ow a fa) (hb : SE m T k c t sc N ow b fb) (hm : behindInMarks op b = false := by first | exact nobehind _ (by decide) (by decide) | rfl) :
    SE m T k c t sc N ow (.Compare a [op] [b] pos) (fun sl => bd (fa sl) fun x => bd (fb sl) fun y => gg x y) := fun X g Wx tk => pe_cmp (pc_of ho ha hb g tk) hm
/-- the truth of a bool -/
def blM (w : W) : M Bool := fun S => match w with
  | .bl b => .ok b S
  | _ => .bad
theorem rdT_blM {f : Slots → M W} {Wx : WX} {σ : St} {H : Hp} {Q : Bool → Hp → Prop} (h : rdT T m.K (fun sl => bd (f sl) blM) Wx σ H Q) : tB (rd T m.K f Wx) σ H Q := by
  obtain ⟨ad, S, sl, R, L, h⟩ := h
  refine ⟨ad, S, sl, R, L, run_imp (run_bdT h) ?_⟩
  rintro v H1 ⟨ad1, S1, w1, l1, R1, r1, h1⟩
  unfold blM at h1
  split at h1
  · cases r1
    exact ⟨_, rfl, h1 _ _ Le.refl R1⟩
  · exact h1.elim
theorem t_cmp {op : CmpOp} {gg : W → W → M W} (ho : SC m T k c t sc N ow op gg) (ha : SE m T k c t sc N ow a fa) (hb : SE m T k c t sc N ow b fb) (hm : behindInMarks op b = false := by first | exact nobehind _ (by decide) (by decide) | rfl) :
    ST m T k c t sc N ow (.Compare a [op] [b] pos) (fun sl => bd (bd (fa sl) fun x => bd (fb sl) fun y => gg x y) blM) := fun X g Wx tk =>
  (pt_cmp (pc_of ho ha hb g tk) hm).imp fun σ H Q h => rdT_blM h
/-- a op1 b op2 d: by operations that raise nothing -/
def chainM (g1 g2 : W → W → M W) (fa fb fd : M W) : M W := bd fa fun x => bd fb fun y => bd (g1 x y) fun z => match z with
  | .bl true => bd fd fun w => g2 y w
  | .bl false => ret (.bl false)
  | _ => stuck
theorem e_chain {op op' : CmpOp} {g1 g2 : W → W → M W} (ho : ∀ X, Good m k c t sc N ow X → ∀ E, OpR X (compareOp op) (r2 T m.K g1 E)) (ho' : ∀ X, Good m k c t sc N ow X → ∀ E, OpR X (compareOp op') (r2 T m.K g2 E)) (ha : SE m T k c t sc N ow a fa) (hb : SE m T k c t sc N ow b fb) (hd : SE m T k c t sc N ow d fd)
    (hm : lastMarks [op, op'] [b, d] = false := by with_unfolding_all rfl) : SE m T k c t sc N ow (.Compare a [op, op'] [b, d] pos) (fun sl => chainM g1 g2 (fa sl) (fb sl) (fd sl)) := fun X g Wx tk => by
  refine ⟨fun pins s σ H Q I h => ?_⟩
  refine (pe_chain (ho X g fun c d H' => Wx c d σ H') (ho' X g fun c d H' => Wx c d σ H') (ha X g Wx tk) (hb X g Wx tk) (hd X g Wx tk) hm).run pins s σ H Q I ?_
  obtain ⟨ad, S, sl, R, L, h⟩ := h
  refine ⟨ad, S, sl, R, L, run_imp (run_bd h) ?_⟩
  rintro v H1 ⟨ad1, S1, w1, l1, R1, r1, h1⟩
  refine ⟨ad1, S1, sl, R1, L.mono l1, run_imp (run_bd h1) ?_⟩
  rintro u H2 ⟨ad2, S2, w2, l2, R2, r2, h2⟩
  refine ⟨ad2, S2, w1, w2, R2, r1.mono l2, r2, run_imp (run_bd h2) ?_⟩
  rintro z H3 ⟨ad3, S3, w3, l3, R3, r3, h3⟩
  split at h3
  · cases r3
    refine ⟨true, rfl, ?_⟩
    rw [if_pos rfl]
    refine ⟨ad3, S3, sl, R3, ((L.mono l1).mono l2).mono l3, run_imp (run_bd h3) ?_⟩
    rintro y H4 ⟨ad4, S4, w4, l4, R4, r4, h4⟩
    exact ⟨ad4, S4, w2, w4, R4, (r2.mono l3).mono l4, r4, h4⟩
  · cases r3
    refine ⟨false, rfl, ?_⟩
    rw [if_neg Bool.false_ne_true]
    exact run_ok R3 (.bl false) h3
  · exact h3.elim
theorem t_chain {op op' : CmpOp} {g1 g2 : W → W → M W} (ho : ∀ X, Good m k c t sc N ow X → ∀ E, OpR X (compareOp op) (r2 T m.K g1 E)) (ho' : ∀ X, Good m k c t sc N ow X → ∀ E, OpR X (compareOp op') (r2 T m.K g2 E)) (ha : SE m T k c t sc N ow a fa) (hb : SE m T k c t sc N ow b fb) (hd : SE m T k c t sc N ow d fd)
    (hm : lastMarks [op, op'] [b, d] = false := by with_unfolding_all rfl) : ST m T k c t sc N ow (.Compare a [op, op'] [b, d] pos) (fun sl => bd (chainM g1 g2 (fa sl) (fb sl) (fd sl)) blM) := fun X g Wx tk => by
  refine ⟨fun pins s σ H Q I h => ?_⟩
  refine (pt_chain (ho X g fun c d H' => Wx c d σ H') (ho' X g fun c d H' => Wx c d σ H') (ha X g Wx tk) (hb X g Wx tk) (hd X g Wx tk) hm).run pins s σ H Q I ?_
  obtain ⟨ad, S, sl, R, L, h⟩ := h
  have h := run_bdT h
  refine ⟨ad, S, sl, R, L, run_imp (run_bd h) ?_⟩
  rintro v H1 ⟨ad1, S1, w1, l1, R1, r1, h1⟩
  refine ⟨ad1, S1, sl, R1, L.mono l1, run_imp (run_bd h1) ?_⟩
  rintro u H2 ⟨ad2, S2, w2, l2, R2, r2, h2⟩
  refine ⟨ad2, S2, w1, w2, R2, r1.mono l2, r2, run_imp (run_bd h2) ?_⟩
  have fin : ∀ {v : V} {H1 : Hp}, (∃ ad1 S1 w, Le m.K ad H ad1 H1 ∧ Rel T m.K ad1 H1 S1 ∧ RelW m.K ad1 H1 w v ∧ runT T m.K ad1 H1 (blM w S1) Q fun c d H' => Wx c d σ H') → ∃ k, v = .bl k ∧ Q k H1 := fun {v H1} ⟨ad1, S1, w1, l1, R1, r1, h1⟩ => by
    unfold blM at h1
    split at h1
    · cases r1
      exact ⟨_, rfl, h1 _ _ Le.refl R1⟩
    · exact h1.elim
  rintro z H3 ⟨ad3, S3, w3, l3, R3, r3, h3⟩
  split at h3
  · cases r3
    refine ⟨true, rfl, ?_⟩
    rw [if_pos rfl]
    refine ⟨ad3, S3, sl, R3, ((L.mono l1).mono l2).mono l3, run_imp (run_bd h3) ?_⟩
    rintro y H4 ⟨ad4, S4, w4, l4, R4, r4, h4⟩
    exact ⟨ad4, S4, w2, w4, R4, (r2.mono l3).mono l4, r4, run_imp h4 fun v H' q => fin q⟩
  · cases r3
    refine ⟨false, rfl, ?_⟩
    rw [if_neg Bool.false_ne_true]
    exact fin (run_ok R3 (.bl false) h3)
  · exact h3.elim
/-! ### truth -/
def truM (w : W) : M Bool := fun S => match w with
  | .non => .ok false S
  | .bl b => .ok b S
  | .int i => .ok (i != 0) S
  | .str x => if x.length ≤ sizeLine then .ok ((x.length : Int) != 0) S else .bad
  | .tup xs => .ok (!xs.isEmpty) S
  | .ref i => match seqOf S i with
    | some xs => .ok (!xs.isEmpty) S
    | none => .bad
  | _ => .bad
theorem isEmpty_rel {K : PySem.W.Frag} {ad : List Addr} {H : Hp} {ws : List W} {vs : List V} (r : RelWs K ad H ws vs) : vs.isEmpty = ws.isEmpty := by cases r <;> rfl
theorem t_val (ha : SE m T k c t sc N ow a fa) (he : ∀ env whole, isTrue a env whole = (do let v ← whole; standAt a.pos; holding [v] (truthy v)) := by intro _ _; rfl) :
    ST m T k c t sc N ow a (fun sl => bd (fa sl) truM) := fun X g Wx tk => by
  refine (pt_truth (ha X g Wx tk) (he X.env)).imp fun σ H Q h => ?_
  have ek : X.K = m.K := by rw [← g.mo]; rfl
  obtain ⟨ad, S, sl, R, L, h⟩ := h
  refine ⟨ad, S, sl, R, L, run_imp (run_bdT h) ?_⟩
  rintro v H1 ⟨ad1, S1, w1, l1, R1, r1, h1⟩
  rw [ek]
  unfold truM at h1
  split at h1
  · cases r1; exact ⟨_, rfl, h1 _ _ Le.refl R1⟩
  · cases r1; exact ⟨_, rfl, h1 _ _ Le.refl R1⟩
  · cases r1; exact ⟨_, rfl, h1 _ _ Le.refl R1⟩
  · split at h1
    · cases r1; exact ⟨_, ⟨by assumption, rfl⟩, h1 _ _ Le.refl R1⟩
    · exact h1.elim
  · cases r1 with
    | tup s1 r2 => exact ⟨_, .inr (.inl ⟨_, s1, by rw [isEmpty_rel r2]⟩), h1 _ _ Le.refl R1⟩
  · cases r1 with
    | ref e =>
    split at h1
    · rename_i ws hs
      obtain ⟨vs, q, r⟩ := R1.seq e hs
      exact ⟨_, .inl ⟨_, q, by rw [isEmpty_rel r]⟩, h1 _ _ Le.refl R1⟩
    · exact h1.elim
  · exact h1.elim
/-! ### and, or, not -/
theorem e_one {op : BoolOp} (ha : SE m T k c t sc N ow a fa) : SE m T k c t sc N ow (.BoolOp op [a] pos) fa := fun X g Wx tk => pe_one (ha X g Wx tk)
def andW (x y : M W) : M W := bd x fun w => match w with
  | .bl true => y
  | .bl false => ret (.bl false)
  | _ => stuck
def orW (x y : M W) : M W := bd x fun w => match w with
  | .bl true => ret (.bl true)
  | .bl false => y
  | _ => stuck
theorem e_and (ha : SE m T k c t sc N ow a fa) (hb : SE m T k c t sc N ow (.BoolOp .And (b :: rest) pos) fb) : SE m T k c t sc N ow (.BoolOp .And (a :: b :: rest) pos) (fun sl => andW (fa sl) (fb sl)) := fun X g Wx tk => by
  refine (pe_and (ha X g Wx tk) (hb X g Wx tk)).imp fun σ H Q h => ?_
  obtain ⟨ad, S, sl, R, L, h⟩ := h
  refine ⟨ad, S, sl, R, L, run_imp (run_bd h) ?_⟩
  rintro v H1 ⟨ad1, S1, w1, l1, R1, r1, h1⟩
  split at h1
  · cases r1
    refine ⟨true, rfl, ?_⟩
    rw [if_pos rfl]
    exact ⟨ad1, S1, sl, R1, L.mono l1, h1⟩
  · cases r1
    refine ⟨false, rfl, ?_⟩
    rw [if_neg Bool.false_ne_true]
    exact run_ok R1 (.bl false) h1
  · exact h1.elim
theorem e_or (ha : SE m T k c t sc N ow a fa) (hb : SE m T k c t sc N ow (.BoolOp .Or (b :: rest) pos) fb) : SE m T k c t sc N ow (.BoolOp .Or (a :: b :: rest) pos) (fun sl => orW (fa sl) (fb sl)) := fun X g Wx tk => by
  refine (pe_or (ha X g Wx tk) (hb X g Wx tk)).imp fun σ H Q h => ?_
  obtain ⟨ad, S, sl, R, L, h⟩ := h
  refine ⟨ad, S, sl, R, L, run_imp (run_bd h) ?_⟩
  rintro v H1 ⟨ad1, S1, w1, l1, R1, r1, h1⟩
  split at h1
  · cases r1
    refine ⟨true, rfl, ?_⟩
    rw [if_pos rfl]
    exact run_ok R1 (.bl true) h1
  · cases r1
    refine ⟨false, rfl, ?_⟩
    rw [if_neg Bool.false_ne_true]
    exact ⟨ad1, S1, sl, R1, L.mono l1, h1⟩
  · exact h1.elim
def ngW (w : W) : M W := fun S => match w with
  | .bl b => .ok (.bl (!b)) S
  | _ => .bad
theorem e_not (ha : SE m T k c t sc N ow a fa) : SE m T k c t sc N ow (.UnaryOp .Not a pos) (fun sl => bd (fa sl) ngW) := fun X g Wx tk => by
  refine (pe_not (ha X g Wx tk)).imp fun σ H Q h => ?_
  obtain ⟨ad, S, sl, R, L, h⟩ := h
  refine ⟨ad, S, sl, R, L, run_imp (run_bd h) ?_⟩
  rintro v H1 ⟨ad1, S1, w1, l1, R1, r1, h1⟩
  unfold ngW at h1
  split at h1
  · cases r1
    exact ⟨_, rfl, run_ok R1 (.bl _) h1⟩
  · exact h1.elim
theorem w_and1 (ha : ST m T k c t sc N ow a ga) : SW m T k c t sc N ow (.BoolOp .And [a] pos) ga := fun X g Wx tk => pw_and1 (ha X g Wx tk)
theorem w_or1 (ha : ST m T k c t sc N ow a ga) : SW m T k c t sc N ow (.BoolOp .Or [a] pos) ga := fun X g Wx tk => pw_or1 (ha X g Wx tk)
def andT (x y : M Bool) : M Bool := bd x fun b => match b with
  | true => y
  | false => ret false
def orT (x y : M Bool) : M Bool := bd x fun b => match b with
  | true => ret true
  | false => y
theorem w_and (ha : ST m T k c t sc N ow a ga) (hb : SW m T k c t sc N ow (.BoolOp .And (b :: rest) pos) gb) : SW m T k c t sc N ow (.BoolOp .And (a :: b :: rest) pos) (fun sl => andT (ga sl) (gb sl)) := fun X g Wx tk => by
  refine (pw_and (ha X g Wx tk) (hb X g Wx tk)).imp fun σ H Q h => ?_
  obtain ⟨ad, S, sl, R, L, h⟩ := h
  refine ⟨ad, S, sl, R, L, runT_imp (runT_bdT h) ?_⟩
  rintro v H1 ⟨ad1, S1, l1, R1, h1⟩
  cases v with
  | true => rw [if_pos rfl]; exact ⟨ad1, S1, sl, R1, L.mono l1, h1⟩
  | false => rw [if_neg Bool.false_ne_true]; exact h1 _ _ Le.refl R1
theorem w_or (ha : ST m T k c t sc N ow a ga) (hb : SW m T k c t sc N ow (.BoolOp .Or (b :: rest) pos) gb) : SW m T k c t sc N ow (.BoolOp .Or (a :: b :: rest) pos) (fun sl => orT (ga sl) (gb sl)) := fun X g Wx tk => by
  refine (pw_or (ha X g Wx tk) (hb X g Wx tk)).imp fun σ H Q h => ?_
  obtain ⟨ad, S, sl, R, L, h⟩ := h
  refine ⟨ad, S, sl, R, L, runT_imp (runT_bdT h) ?_⟩
  rintro v H1 ⟨ad1, S1, l1, R1, h1⟩
  cases v with
  | true => rw [if_pos rfl]; exact h1 _ _ Le.refl R1
  | false => rw [if_neg Bool.false_ne_true]; exact ⟨ad1, S1, sl, R1, L.mono l1, h1⟩
theorem t_w {f : Slots → M Bool} (h : SW m T k c t sc N ow a f) : ST m T k c t sc N ow a f := fun X g Wx tk => (h X g Wx tk).pt
theorem t_not (ha : ST m T k c t sc N ow a ga) : ST m T k c t sc N ow (.UnaryOp .Not a pos) (fun sl => bd (ga sl) fun b => ret (!b)) := fun X g Wx tk => by
  refine (pt_not (ha X g Wx tk)).imp fun σ H Q h => ?_
  obtain ⟨ad, S, sl, R, L, h⟩ := h
  refine ⟨ad, S, sl, R, L, runT_imp (runT_bdT h) ?_⟩
  rintro v H1 ⟨ad1, S1, l1, R1, h1⟩
  exact h1 _ _ Le.refl R1
def iteM {α : Type} (x : M Bool) (y z : M α) : M α := bd x fun b => match b with
  | true => y
  | false => z
theorem e_if (hc : ST m T k c t sc N ow d ga) (ha : SE m T k c t sc N ow a fa) (hb : SE m T k c t sc N ow b fb) : SE m T k c t sc N ow (.IfExp d a b pos) (fun sl => iteM (ga sl) (fa sl) (fb sl)) := fun X g Wx tk => by
  refine (pe_ifExp (hc X g Wx tk) (ha X g Wx tk) (hb X g Wx tk)).imp fun σ H Q h => ?_
  obtain ⟨ad, S, sl, R, L, h⟩ := h
  refine ⟨ad, S, sl, R, L, runT_imp (runT_bd h) ?_⟩
  rintro v H1 ⟨ad1, S1, l1, R1, h1⟩
  cases v with
  | true => rw [if_pos rfl]; exact ⟨ad1, S1, sl, R1, L.mono l1, h1⟩
  | false => rw [if_neg Bool.false_ne_true]; exact ⟨ad1, S1, sl, R1, L.mono l1, h1⟩
/-! ### arguments, displays -/
variable {es : List Expr} {fs : Slots → M (List W)}
theorem a_nil : SA m T k c t sc N ow [] (fun _ => ret []) := fun X g Wx tk => pa_nil.imp fun σ H Q h => by
  obtain ⟨ad, S, sl, R, L, h⟩ := h
  exact h _ _ _ Le.refl R .nil
theorem a_cons (ha : SE m T k c t sc N ow a fa) (hr : SA m T k c t sc N ow es fs) (hs : ∀ env, starEach (a :: es) env = (false, eval a env) :: starEach es env := by intro _; rfl) :
    SA m T k c t sc N ow (a :: es) (fun sl => bd (fa sl) fun x => bd (fs sl) fun xs => ret (x :: xs)) := fun X g Wx tk => by
  refine (pa_cons (ha X g Wx tk) (hr X g Wx tk) (hs X.env)).imp fun σ H Q h => ?_
  obtain ⟨ad, S, sl, R, L, h⟩ := h
  refine ⟨ad, S, sl, R, L, run_imp (run_bdA h) ?_⟩
  rintro v H1 ⟨ad1, S1, w1, l1, R1, r1, h1⟩
  refine ⟨ad1, S1, sl, R1, L.mono l1, runA_imp (runA_bdA h1) ?_⟩
  rintro vs H2 ⟨ad2, S2, ws, l2, R2, r2, h2⟩
  exact h2 _ _ _ Le.refl R2 (.cons (r1.mono l2) r2)
def tupM (ws : List W) : M W := fun S => if ws.length ≤ sizeLine then .ok (.tup ws) S else .bad
def lstM (ws : List W) : M W := fun S => if ws.length ≤ sizeLine then .ok (.ref S.length) (S ++ [.lst ws]) else .bad
theorem e_tup {x1 : Nat} (h : SA m T k c t sc N ow es fs) : SE m T k c t sc N ow (.Tuple es x1 pos) (fun sl => bd (fs sl) tupM) := fun X g Wx tk => by
  refine (pe_tup (h X g Wx tk)).imp fun σ H Q h => ?_
  obtain ⟨ad, S, sl, R, L, h⟩ := h
  refine ⟨ad, S, sl, R, L, runA_imp (runA_bd h) ?_⟩
  rintro vs H1 ⟨ad1, S1, ws, l1, R1, r1, h1⟩
  unfold tupM at h1
  split at h1
  · exact ⟨by rw [← r1.length]; assumption, fun p hp => run_newtup R1 hp r1 h1⟩
  · exact h1.elim
theorem e_lst (h : SA m T k c t sc N ow es fs) : SE m T k c t sc N ow (.List es pos) (fun sl => bd (fs sl) lstM) := fun X g Wx tk => by
  refine (pe_lst (h X g Wx tk)).imp fun σ H Q h => ?_
  obtain ⟨ad, S, sl, R, L, h⟩ := h
  refine ⟨ad, S, sl, R, L, runA_imp (runA_bd h) ?_⟩
  rintro vs H1 ⟨ad1, S1, ws, l1, R1, r1, h1⟩
  unfold lstM at h1
  split at h1
  · exact ⟨by rw [← r1.length]; assumption, fun p hp => run_newlst R1 hp r1 h1⟩
  · exact h1.elim
end
end RP

/-! RpE: statements, targets, loops. -/
namespace RP
open PySem L2

def exS (sl : Slots) (m : M W) (k : W → M Fl) : M Fl := fun S => match m S with
  | .ok w S' => k w S'
  | .ex x S' => .ok (.xx x sl) S'
  | .bad => .bad
def exT (sl : Slots) (m : M Bool) (k : Bool → M Fl) : M Fl := fun S => match m S with
  | .ok w S' => k w S'
  | .ex x S' => .ok (.xx x sl) S'
  | .bad => .bad
def exA (sl : Slots) (m : M (List W)) (k : List W → M Fl) : M Fl := fun S => match m S with
  | .ok w S' => k w S'
  | .ex x S' => .ok (.xx x sl) S'
  | .bad => .bad
/-- one statement, then others -/
def seqM (m : M Fl) (k : Slots → M Fl) : M Fl := fun S => match m S with
  | .ok (.nx sl) S' => k sl S'
  | r => r

section
variable {T : Tab} {K : PySem.W.Frag} {ad : List Addr} {H : Hp} {S : Sto} {sl : Slots} {σ : St} {D : Ends} {Wx : WX}
theorem run_exS {f : M W} {g : W → M Fl} (L : RelSl K ad H sl σ) (h : runS T K ad H (exS sl f g S) D Wx) :
    run T K ad H (f S) (fun v H1 => ∃ ad1 S1 w, Le K ad H ad1 H1 ∧ Rel T K ad1 H1 S1 ∧ RelW K ad1 H1 w v ∧ runS T K ad1 H1 (g w S1) D Wx) fun c d H' => Wx c d σ H' := by
  unfold exS at h
  cases q : f S with
  | ok w S1 => rw [q] at h; exact fun a b c l R r => ⟨a, S1, w, l, R, r, runS_mono l h⟩
  | ex x S => rw [q] at h; exact fun a b c d l R r => h a b c d σ l R r (L.mono l)
  | bad => rw [q] at h; exact h
theorem run_exT {f : M Bool} {g : Bool → M Fl} (L : RelSl K ad H sl σ) (h : runS T K ad H (exT sl f g S) D Wx) :
    runT T K ad H (f S) (fun b H1 => ∃ ad1 S1, Le K ad H ad1 H1 ∧ Rel T K ad1 H1 S1 ∧ runS T K ad1 H1 (g b S1) D Wx) fun c d H' => Wx c d σ H' := by
  unfold exT at h
  cases q : f S with
  | ok w S1 => rw [q] at h; exact fun a b l R => ⟨a, S1, l, R, runS_mono l h⟩
  | ex x S => rw [q] at h; exact fun a b c d l R r => h a b c d σ l R r (L.mono l)
  | bad => rw [q] at h; exact h
theorem run_exA {f : M (List W)} {g : List W → M Fl} (L : RelSl K ad H sl σ) (h : runS T K ad H (exA sl f g S) D Wx) :
    runA T K ad H (f S) (fun vs H1 => ∃ ad1 S1 ws, Le K ad H ad1 H1 ∧ Rel T K ad1 H1 S1 ∧ RelWs K ad1 H1 ws vs ∧ runS T K ad1 H1 (g ws S1) D Wx) fun c d H' => Wx c d σ H' := by
  unfold exA at h
  cases q : f S with
  | ok w S1 => rw [q] at h; exact fun a b c l R r => ⟨a, S1, w, l, R, r, runS_mono l h⟩
  | ex x S => rw [q] at h; exact fun a b c d l R r => h a b c d σ l R r (L.mono l)
  | bad => rw [q] at h; exact h
theorem runS_seq {f : M Fl} {g : Slots → M Fl} (h : runS T K ad H (seqM f g S) D Wx) :
    runS T K ad H (f S) { D with nx := fun σ H => ∃ ad1 S1 sl, Rel T K ad1 H S1 ∧ RelSl K ad1 H sl σ ∧ runS T K ad1 H (g sl S1) D Wx } Wx := by
  unfold seqM at h
  cases q : f S with
  | ok w S1 =>
    rw [q] at h
    cases w with
    | nx sl => exact fun a b c l R L => ⟨a, S1, sl, R, L, runS_mono l h⟩
    | rt w => exact h
    | bk w => exact h
    | ct w => exact h
    | xx x w => exact h
  | ex x S => rw [q] at h; exact h
  | bad => rw [q] at h; exact h
theorem runS_nx (R : Rel T K ad H S) (L : RelSl K ad H sl σ) (h : runS T K ad H (.ok (.nx sl) S) D Wx) : D.nx σ H := h _ _ _ Le.refl R L
end

section
variable (m : Mo) (T : Tab) (k : Nat) (c t : Bool) (sc : Scope) (N ow : List Str)
/-- a target takes a value (it raises nothing) -/
def runG (T : Tab) (K : PySem.W.Frag) (ad : List Addr) (H : Hp) (r : Res Slots) (Q : St → Hp → Prop) : Prop := match r with
  | .ok sl S => ∀ ad' H' σ, Le K ad H ad' H' → Rel T K ad' H' S → RelSl K ad' H' sl σ → Q σ H'
  | _ => False
def rdG (T : Tab) (K : PySem.W.Frag) (f : W → Slots → M Slots) : TG := fun v σ H Q => ∃ ad S sl w, Rel T K ad H S ∧ RelSl K ad H sl σ ∧ RelW K ad H w v ∧ runG T K ad H (f w sl S) Q
def rdGs (T : Tab) (K : PySem.W.Frag) (f : List W → Slots → M Slots) : TGs := fun vs σ H Q => ∃ ad S sl ws, Rel T K ad H S ∧ RelSl K ad H sl σ ∧ RelWs K ad H ws vs ∧ runG T K ad H (f ws sl S) Q
def SG (tg : Expr) (f : W → Slots → M Slots) : Prop := ∀ X, Good m k c t sc N ow X → PG X tg (rdG T m.K f)
def SGs (tg : List Expr) (f : List W → Slots → M Slots) : Prop := ∀ X, Good m k c t sc N ow X → PGs X tg (rdGs T m.K f)
end
end RP
namespace L2
open PySem
theorem PG.imp {X : Cx} {e : Expr} {t t' : TG} (h : PG X e t) (i : ∀ v σ H Q, t' v σ H Q → t v σ H Q) : PG X e t' := ⟨fun pins s σ H v u Q I r q => h.run pins s σ H v u Q I r (i v σ H Q q)⟩
theorem PGs.imp {X : Cx} {e : List Expr} {t t' : TGs} (h : PGs X e t) (i : ∀ v σ H Q, t' v σ H Q → t v σ H Q) : PGs X e t' := ⟨fun pins s σ H v u Q I r q => h.run pins s σ H v u Q I r (i v σ H Q q)⟩
end L2
namespace RP
open PySem L2
section
variable {m : Mo} {T : Tab} {k : Nat} {c t : Bool} {sc : Scope} {N ow : List Str} {a b e : Expr} {fa fb fe : Slots → M W} {ga gb : Slots → M Bool} {pos : Pos} {st : Stmt} {sts : List Stmt} {f f' : Slots → M Fl}
/-- a name that may be stored -/
def LocO (sc : Scope) (ow : List Str) (x : Str) : Prop := sc.names.lookup x = some .local ∨ (sc.names.lookup x = some .cell ∧ x ∈ ow)
theorem hf_of {X : Cx} (g : Good m k c t sc N ow X) {x : Str} (hx : LocO sc ow x) : X.fn x = true ∨ X.env.scope.names.lookup x = some .local := by
  rcases hx with h | h
  · exact .inr (by rw [g.hsc]; exact h)
  · exact .inl (g.fn x h.2)
theorem loc_of {X : Cx} (g : Good m k c t sc N ow X) {x : Str} (hx : LocO sc ow x) : Loc X.env.scope x := by
  rw [g.hsc]
  rcases hx with h | h
  · exact .inl h
  · exact .inr h.1
/-! ### blocks -/
theorem ss_nil : SSs m T k c t sc N ow [] (fun sl => ret (.nx sl)) := fun X g Wx tk => pss_nil.imp fun D σ H h => by
  obtain ⟨ad, S, sl, R, L, h⟩ := h
  exact runS_nx R L h
theorem ss_cons (h1 : SS m T k c t sc N ow st f) (h2 : SSs m T k c t sc N ow sts f') : SSs m T k c t sc N ow (st :: sts) (fun sl => seqM (f sl) f') := fun X g Wx tk => by
  refine (pss_cons (h1 X g Wx tk) (h2 X g Wx tk)).imp fun D σ H h => ?_
  obtain ⟨ad, S, sl, R, L, h⟩ := h
  exact ⟨ad, S, sl, R, L, runS_seq h⟩
theorem ss_one (h1 : SS m T k c t sc N ow st f) : SSs m T k c t sc N ow [st] f := fun X g Wx tk => pss_one (h1 X g Wx tk)
theorem s_pass : SS m T k c t sc N ow (.Pass pos) (fun sl => ret (.nx sl)) := fun X g Wx tk => ps_pass.imp fun D σ H h => by
  obtain ⟨ad, S, sl, R, L, h⟩ := h
  exact runS_nx R L h
theorem s_break : SS m T k c t sc N ow (.Break pos) (fun sl => ret (.bk sl)) := fun X g Wx tk => ps_break.imp fun D σ H h => by
  obtain ⟨ad, S, sl, R, L, h⟩ := h
  exact h _ _ _ Le.refl R L
theorem s_continue : SS m T k c t sc N ow (.Continue pos) (fun sl => ret (.ct sl)) := fun X g Wx tk => ps_continue.imp fun D σ H h => by
  obtain ⟨ad, S, sl, R, L, h⟩ := h
  exact h _ _ _ Le.refl R L
theorem s_expr (he : SE m T k c t sc N ow e fe) (hs : ∀ l env, swapsWith e none l env = pure false := by intro _ _; rfl) : SS m T k c t sc N ow (.Expr e pos) (fun sl => exS sl (fe sl) fun _ => ret (.nx sl)) := fun X g Wx tk => by
  refine (ps_expr (he X g Wx tk) (hs _ _)).imp fun D σ H h => ?_
  obtain ⟨ad, S, sl, R, L, h⟩ := h
  refine ⟨ad, S, sl, R, L, run_imp (run_exS L h) ?_⟩
  rintro v H1 ⟨ad1, S1, w1, l1, R1, r1, h1⟩
  exact runS_nx R1 (L.mono l1) h1
theorem s_ret (he : SE m T k c t sc N ow e fe) : SS m T k c t sc N ow (.Return (some e) pos) (fun sl => exS sl (fe sl) fun w => ret (.rt w)) := fun X g Wx tk => by
  refine (ps_ret (he X g Wx tk)).imp fun D σ H h => ?_
  obtain ⟨ad, S, sl, R, L, h⟩ := h
  refine ⟨ad, S, sl, R, L, run_imp (run_exS L h) ?_⟩
  rintro v H1 ⟨ad1, S1, w1, l1, R1, r1, h1⟩
  exact h1 _ _ _ Le.refl R1 r1
theorem s_retN : SS m T k c t sc N ow (.Return none pos) (fun sl => ret (.rt .non)) := fun X g Wx tk => ps_retN.imp fun D σ H h => by
  obtain ⟨ad, S, sl, R, L, h⟩ := h
  exact h _ _ _ Le.refl R .non
theorem s_if {sa sb : List Stmt} (hc : ST m T k c t sc N ow a ga) (ha : SSs m T k c t sc N ow sa f) (hb : SSs m T k c t sc N ow sb f') :
    SS m T k c t sc N ow (.If a sa sb pos) (fun sl => exT sl (ga sl) fun b => match b with | true => f sl | false => f' sl) := fun X g Wx tk => by
  refine (ps_if (hc X g Wx tk) (ha X g Wx tk) (hb X g Wx tk)).imp fun D σ H h => ?_
  obtain ⟨ad, S, sl, R, L, h⟩ := h
  refine ⟨ad, S, sl, R, L, runT_imp (run_exT L h) ?_⟩
  rintro v H1 ⟨ad1, S1, l1, R1, h1⟩
  cases v with
  | true => rw [if_pos rfl]; exact ⟨ad1, S1, sl, R1, L.mono l1, h1⟩
  | false => rw [if_neg Bool.false_ne_true]; exact ⟨ad1, S1, sl, R1, L.mono l1, h1⟩
/-- code that the proof does not come to -/
theorem s_never : SS m T k c t sc N ow st (fun _ => stuck) := fun X g Wx tk => ps_never.imp fun D σ H h => by
  obtain ⟨ad, S, sl, R, L, h⟩ := h
  exact h
/-! ### targets -/
theorem runG_mono {T : Tab} {K : PySem.W.Frag} {ad ad' : List Addr} {H H' : Hp} {r : Res Slots} {Q : St → Hp → Prop} (l : Le K ad H ad' H') (h : runG T K ad H r Q) : runG T K ad' H' r Q := by
  cases r with
  | ok sl S => exact fun a b c l' => h a b c (l.trans l')
  | ex x S => exact h
  | bad => exact h
def thenG (m : M Slots) (k : Slots → M Slots) : M Slots := fun S => match m S with
  | .ok sl S' => k sl S'
  | _ => .bad
theorem g_name (i : Nat) {x : Str} (hi : N[i]? = some x := by rfl) (hx : LocO sc ow x := by first | exact Or.inl rfl | exact Or.inr ⟨rfl, by decide +kernel⟩) : SG m T k c t sc N ow (.Name x pos) (fun w sl => ret (sl.set i (some w))) := fun X g => by
  refine (pg_name (i := i) (by rw [g.hN]; exact g.nd) (by rw [g.hN]; exact hi) (loc_of g hx) (hf_of g hx)).imp fun v σ H Q h => ?_
  obtain ⟨ad, S, sl, w, R, L, r, h⟩ := h
  exact h _ _ _ Le.refl R (L.set r i)
theorem gs_nil : SGs m T k c t sc N ow [] (fun ws sl => match ws with | [] => ret sl | _ => stuck) := fun X g => pgs_nil.imp fun vs σ H Q h => by
  obtain ⟨ad, S, sl, ws, R, L, r, h⟩ := h
  cases r with
  | nil => exact ⟨rfl, h _ _ _ Le.refl R L⟩
  | cons _ _ => exact h.elim
theorem gs_cons {es : List Expr} {g1 : W → Slots → M Slots} {g2 : List W → Slots → M Slots} (h1 : SG m T k c t sc N ow e g1) (h2 : SGs m T k c t sc N ow es g2) (hs : ∀ env, (assignEach (e :: es) env).map (·.2) = assign e env :: (assignEach es env).map (·.2) := by intro _; rfl) :
    SGs m T k c t sc N ow (e :: es) (fun ws sl => match ws with | [] => stuck | w :: r => thenG (g1 w sl) (g2 r)) := fun X g => by
  refine (pgs_cons (h1 X g) (h2 X g) (hs _)).imp fun vs σ H Q h => ?_
  obtain ⟨ad, S, sl, ws, R, L, r, h⟩ := h
  cases r with
  | nil => exact h.elim
  | @cons w v ws' vs' r rr =>
    refine ⟨v, vs', rfl, ad, S, sl, w, R, L, r, ?_⟩
    have h : runG T m.K ad H (thenG (g1 w sl) (g2 ws') S) Q := h
    unfold thenG at h
    cases q : g1 w sl S with
    | ok sl1 S1 => rw [q] at h; exact fun ad' H' σ' l R' L' => ⟨ad', S1, sl1, ws', R', L', rr.mono l, runG_mono l h⟩
    | ex x S => rw [q] at h; exact h
    | bad => rw [q] at h; exact h
/-- a tuple, a list unpacked -/
def unpM (n : Nat) (gs : List W → Slots → M Slots) : W → Slots → M Slots := fun w sl S => match w with
  | .tup ws => if ws.length = n then gs ws sl S else .bad
  | .ref i => match seqOf S i with
    | some ws => if ws.length = n then gs ws sl S else .bad
    | none => .bad
  | _ => .bad
theorem g_tup {es : List Expr} {j n : Nat} {gs : List W → Slots → M Slots} (hc : c = true) (h : SGs m T k c t sc N ow es gs) (hn : ∀ env, (assignEach es env).length = n := by intro _; rfl) (hst : ∀ env, (assignEach es env).findIdx? (·.1) = none := by intro _; rfl) :
    SG m T k c t sc N ow (.Tuple es j pos) (unpM n gs) := fun X g => by
  have h1 := pg_tup (pos := pos) (k := j) (g.calm hc) (h X g) (hn _) (hst _)
  have h2 := pg_unl (pos := pos) (k := j) (g.calm hc) (h X g) (hn _) (hst _)
  refine ⟨fun pins s σ H v u Q I ru hh => ?_⟩
  obtain ⟨ad, S, sl, w, R, L, r, hh⟩ := hh
  have ek : X.K = m.K := by rw [← g.mo]; rfl
  unfold unpM at hh
  split at hh
  · split at hh
    · cases r with
      | tup s1 r1 => exact h1.run pins s σ H _ u Q I ru ⟨_, _, rfl, by rw [ek]; exact s1, by rw [← r1.length]; assumption, ad, S, sl, _, R, L, r1, hh⟩
    · exact hh.elim
  · split at hh
    · rename_i ws hs
      split at hh
      · cases r with
        | ref e =>
        obtain ⟨vs, q, r1⟩ := R.seq e hs
        exact h2.run pins s σ H _ u Q I ru ⟨_, _, rfl, by rw [ek]; exact q, by rw [← r1.length]; assumption, ad, S, sl, _, R, L, r1, hh⟩
      · exact hh.elim
    · exact hh.elim
  · exact hh.elim
/-! ### assignments -/
def asgM (g : M Slots) : M Fl := fun S => match g S with
  | .ok sl S' => .ok (.nx sl) S'
  | _ => .bad
theorem runS_asg {T : Tab} {K : PySem.W.Frag} {ad : List Addr} {H : Hp} {S : Sto} {g : M Slots} {D : Ends} {Wx : WX} (h : runS T K ad H (asgM g S) D Wx) : runG T K ad H (g S) D.nx := by
  unfold asgM at h
  cases q : g S with
  | ok sl S1 => rw [q] at h; exact h
  | ex x S => rw [q] at h; exact h
  | bad => rw [q] at h; exact h
theorem s_asg {tg : Expr} {g1 : W → Slots → M Slots} (he : SE m T k c t sc N ow e fe) (hg : SG m T k c t sc N ow tg g1) (hs : ∀ X, Good m k c t sc N ow X → swapsWithSole [tg] e pos.line X.env = pure false := by intro _ _; rfl) (hw : ∀ X, Good m k c t sc N ow X → swappedStores [tg] e X.env = pure none := by intro _ _; rfl)
    (h1 : ∀ env, (assignEach [tg] env).map (·.2) = [assign tg env] := by intro _; rfl) : SS m T k c t sc N ow (.Assign [tg] e pos) (fun sl => exS sl (fe sl) fun w => asgM (g1 w sl)) := fun X g Wx tk => by
  refine (ps_asg (he X g Wx tk) (hg X g) (hs X g) (hw X g) (h1 _)).imp fun D σ H h => ?_
  obtain ⟨ad, S, sl, R, L, h⟩ := h
  refine ⟨ad, S, sl, R, L, run_imp (run_exS L h) ?_⟩
  rintro v H1 ⟨ad1, S1, w1, l1, R1, r1, h1⟩
  exact ⟨ad1, S1, sl, w1, R1, L.mono l1, r1, runS_asg h1⟩
/-- name = value -/
theorem s_set (i : Nat) {x : Str} {p' : Pos} (he : SE m T k c t sc N ow e fe) (hi : N[i]? = some x := by rfl) (hx : LocO sc ow x := by first | exact Or.inl rfl | exact Or.inr ⟨rfl, by decide +kernel⟩) (hs : ∀ X, Good m k c t sc N ow X → swapsWith e (some (.Name x p')) pos.line X.env = pure false := by intro _ _; rfl) :
    SS m T k c t sc N ow (.Assign [.Name x p'] e pos) (fun sl => exS sl (fe sl) fun w => ret (.nx (sl.set i (some w)))) := fun X g Wx tk => by
  refine (ps_set (i := i) (by rw [g.hN]; exact g.nd) (by rw [g.hN]; exact hi) (loc_of g hx) (he X g Wx tk) (hs X g) (hf_of g hx)).imp fun D σ H h => ?_
  obtain ⟨ad, S, sl, R, L, h⟩ := h
  refine ⟨ad, S, sl, R, L, run_imp (run_exS L h) ?_⟩
  rintro v H1 ⟨ad1, S1, w1, l1, R1, r1, h1⟩
  exact runS_nx R1 ((L.mono l1).set r1 i) h1
/-- a, b = x, y (local names) -/
def parM (is : List Nat) (sl : Slots) (ws : List W) : Slots := (is.zip ws).foldl (fun sl p => sl.set p.1 (some p.2)) sl
theorem s_par2 {x y : Str} {fs : Slots → M (List W)} {px py pt pt2 : Pos} {kt k2 : Nat} (i j : Nat) (hc : c = true) (ha : SA m T k c t sc N ow [a, b] fs) (hi : N[i]? = some x := by rfl) (hj : N[j]? = some y := by rfl) (hij : i ≠ j := by decide)
    (hx : sc.names.lookup x = some .local := by rfl) (hy : sc.names.lookup y = some .local := by rfl)
    (hw : ∀ X, Good m k c t sc N ow X → swappedStores [.Tuple [.Name x px, .Name y py] kt pt] (.Tuple [a, b] k2 pt2) X.env = pure (some [x, y])) :
    SS m T k c t sc N ow (.Assign [.Tuple [.Name x px, .Name y py] kt pt] (.Tuple [a, b] k2 pt2) pos) (fun sl => exA sl (fs sl) fun ws S => if ws.length = 2 then .ok (.nx (parM [i, j] sl ws)) S else .bad) := fun X g Wx tk => by
  refine (ps_par (g.calm hc) (by rw [g.hN]; exact g.nd) (by rw [g.hN]; exact hi) (by rw [g.hN]; exact hj) hij (by rw [g.hsc]; exact hx) (by rw [g.hsc]; exact hy) (ha X g Wx tk) (hw X g)).imp fun D σ H h => ?_
  obtain ⟨ad, S, sl, R, L, h⟩ := h
  refine ⟨ad, S, sl, R, L, runA_imp (run_exA L h) ?_⟩
  rintro vs H1 ⟨ad1, S1, ws, l1, R1, r1, h1⟩
  split at h1
  · rename_i hl
    match ws, hl, r1 with
    | [w1, w2], _, .cons (v := v1) r1 (.cons (v := v2) r2 .nil) =>
      exact ⟨v1, v2, rfl, runS_nx R1 (((L.mono l1).set r1 i).set r2 j) h1⟩
  · exact h1.elim
end
end RP

/-! RpF: what is walked, for, while, list comprehensions. -/
namespace RP
open PySem L2

/-- what is walked: its items by the state -/
abbrev View := Sto → Option (List W)
def RelIt (T : Tab) (K : PySem.W.Frag) (ad0 : List Addr) (H0 : Hp) (v : View) (J : It) : Prop := ∀ ad H S, Up K ad0 H0 ad H → Rel T K ad H S → ∀ ws, v S = some ws → ∀ n,
  (n < ws.length → J.go n H) ∧ (ws.length ≤ n → J.stop n H) ∧ ∀ x H', J.yld n H x H' → ∀ w, ws[n]? = some w → Same H H' ∧ RelW K ad H' w x
def runI (T : Tab) (K : PySem.W.Frag) (ad : List Addr) (H : Hp) (r : Res View) (R : It → Hp → Prop) (E : XK) : Prop := match r with
  | .ok v S => ∀ ad' H' J, Le K ad H ad' H' → Rel T K ad' H' S → RelIt T K ad' H' v J → R J H'
  | .ex x S => ∀ ad' H' cls d, Le K ad H ad' H' → Rel T K ad' H' S → RelX T K ad' H' x cls d → E cls d H'
  | .bad => False
def rdI (T : Tab) (K : PySem.W.Frag) (f : Slots → M View) (Wx : WX) : TI := fun σ H R => ∃ ad S sl, Rel T K ad H S ∧ RelSl K ad H sl σ ∧ runI T K ad H (f sl S) R fun c d H' => Wx c d σ H'
def SIt (m : Mo) (T : Tab) (k : Nat) (c t : Bool) (sc : Scope) (N ow : List Str) (tg iter : Expr) (f : Slots → M View) : Prop := ∀ X, Good m k c t sc N ow X → ∀ Wx, Takes X Wx → PI X tg iter (rdI T m.K f Wx)
/-- the loop: n the turn, by fuel -/
def forM (v : View) (g : W → Slots → M Slots) (body : Slots → M Fl) : Nat → Nat → Slots → M Fl
  | 0, _, _ => stuck
  | f + 1, n, sl => fun S => match v S with
    | none => .bad
    | some ws => match ws[n]? with
      | none => .ok (.nx sl) S
      | some w => match g w sl S with
        | .ok sl1 S1 => match body sl1 S1 with
          | .ok (.nx sl2) S2 => forM v g body f (n + 1) sl2 S2
          | .ok (.ct sl2) S2 => forM v g body f (n + 1) sl2 S2
          | .ok (.bk sl2) S2 => .ok (.nx sl2) S2
          | r => r
        | _ => .bad
def forV (v : View) (g : W → Slots → M Slots) (body : Slots → M Fl) (sl : Slots) : M Fl := fun S => match v S with
  | none => .bad
  | some ws => forM v g body (ws.length + 1) 0 sl S
def exI (sl : Slots) (m : M View) (k : View → M Fl) : M Fl := fun S => match m S with
  | .ok v S' => k v S'
  | .ex x S' => .ok (.xx x sl) S'
  | .bad => .bad
section
variable {m : Mo} {T : Tab} {k : Nat} {c t : Bool} {sc : Scope} {N ow : List Str} {a b e : Expr} {fa fb fe : Slots → M W} {ga gb : Slots → M Bool} {pos : Pos} {st : Stmt} {sts : List Stmt} {f f' : Slots → M Fl}
theorem run_exI {K : PySem.W.Frag} {ad : List Addr} {H : Hp} {S : Sto} {sl : Slots} {σ : St} {D : Ends} {Wx : WX} {f : M View} {g : View → M Fl} (L : RelSl K ad H sl σ) (h : runS T K ad H (exI sl f g S) D Wx) :
    runI T K ad H (f S) (fun J H1 => ∃ ad1 S1 v, Le K ad H ad1 H1 ∧ Rel T K ad1 H1 S1 ∧ RelIt T K ad1 H1 v J ∧ runS T K ad1 H1 (g v S1) D Wx) fun c d H' => Wx c d σ H' := by
  unfold exI at h
  cases q : f S with
  | ok w S1 => rw [q] at h; exact fun a b c l R r => ⟨a, S1, w, l, R, r, runS_mono l h⟩
  | ex x S => rw [q] at h; exact fun a b c d l R r => h a b c d σ l R r (L.mono l)
  | bad => rw [q] at h; exact h
theorem runI_imp {K : PySem.W.Frag} {ad : List Addr} {H : Hp} {r : Res View} {Q Q' : It → Hp → Prop} {E : XK} (h : runI T K ad H r Q E) (q : ∀ v H, Q v H → Q' v H) : runI T K ad H r Q' E := by
  cases r with
  | ok w S => exact fun a b c l' R r => q _ _ (h a b c l' R r)
  | ex x S => exact h
  | bad => exact h
theorem s_for {tg iter : Expr} {fi : Slots → M View} {g1 : W → Slots → M Slots} (hc : c = true) (hi : SIt m T k c t sc N ow tg iter fi) (hg : SG m T k c t sc N ow tg g1) (hb : SSs m T k c t sc N ow sts f)
    (hs : ∀ env x, foldedSetIterable iter env x = pure x := by intro _ _; rfl) : SS m T k c t sc N ow (.For tg iter sts [] pos) (fun sl => exI sl (fi sl) fun v => forV v g1 f sl) := fun X g Wx tk => by
  refine (ps_for g.own (g.calm hc) (hi X g Wx tk) (hg X g) (hb X g Wx tk) (hs _)).imp fun D σ H h => ?_
  obtain ⟨ad, S, sl, R, L, h⟩ := h
  refine ⟨ad, S, sl, R, L, runI_imp (run_exI L h) ?_⟩
  rintro J H1 ⟨ad1, S1, v, l1, R1, r1, h1⟩
  unfold forV at h1
  split at h1
  · exact h1.elim
  · rename_i ws0 e0
    refine ⟨fun i n σ H => ∃ ad2 S2 sl2, Le m.K ad1 H1 ad2 H ∧ Rel T m.K ad2 H S2 ∧ RelSl m.K ad2 H sl2 σ ∧ runS T m.K ad2 H (forM v g1 f n i sl2 S2) D Wx, ⟨_, ad1, S1, sl, Le.refl, R1, L.mono l1, h1⟩, ?_⟩
    rintro i n σ2 H2 ⟨ad2, S2, sl2, l2, R2, L2, h2⟩
    cases n with
    | zero => exact h2.elim
    | succ n =>
      unfold forM at h2
      split at h2
      · exact h2.elim
      · rename_i ws e
        obtain ⟨go, stop, yld⟩ := r1 ad2 H2 S2 l2.up R2 ws e i
        split at h2
        · rename_i hn
          exact .inl ⟨stop (List.getElem?_eq_none_iff.mp hn), runS_nx R2 L2 h2⟩
        · rename_i w hw
          refine .inr ⟨go (List.getElem?_eq_some_iff.mp hw).1, fun σ H => ∃ ad2 S2 sl2, Le m.K ad1 H1 ad2 H ∧ Rel T m.K ad2 H S2 ∧ RelSl m.K ad2 H sl2 σ ∧ runS T m.K ad2 H (forM v g1 f n (i + 1) sl2 S2) D Wx, fun σ' H' hN => ⟨n, Nat.lt_succ_self n, hN⟩, fun x H3 y => ?_⟩
          obtain ⟨sm, rx⟩ := yld x H3 y w hw
          have l3 : Le m.K ad2 H2 ad2 H3 := Le.same0 sm
          refine ⟨ad2, S2, sl2, w, R2.same sm, L2.mono l3, rx, ?_⟩
          cases q : g1 w sl2 S2 with
          | ok sl4 S4 =>
            rw [q] at h2
            dsimp only at h2
            intro ad5 H5 σ5 l5 R5 L5
            refine ⟨ad5, S4, sl4, R5, L5, ?_⟩
            cases q2 : f sl4 S4 with
            | ok fl S6 =>
              rw [q2] at h2
              have l6 := (l2.trans l3).trans l5
              cases fl with
              | nx sl6 => exact fun ad7 H7 σ7 l7 R7 L7 => ⟨ad7, S6, sl6, l6.trans l7, R7, L7, runS_mono ((l3.trans l5).trans l7) h2⟩
              | ct sl6 => exact fun ad7 H7 σ7 l7 R7 L7 => ⟨ad7, S6, sl6, l6.trans l7, R7, L7, runS_mono ((l3.trans l5).trans l7) h2⟩
              | bk sl6 => exact fun ad7 H7 σ7 l7 R7 L7 => h2 _ _ _ ((l3.trans l5).trans l7) R7 L7
              | rt w => exact fun ad7 H7 σ7 l7 R7 L7 => h2 _ _ _ ((l3.trans l5).trans l7) R7 L7
              | xx x s => exact fun ad7 H7 cl d σ7 l7 R7 x7 L7 => h2 _ _ _ _ _ ((l3.trans l5).trans l7) R7 x7 L7
            | ex x S => rw [q2] at h2; exact h2
            | bad => rw [q2] at h2; exact h2
          | ex x S => rw [q] at h2; exact h2
          | bad => rw [q] at h2; exact h2
/-! ### while -/
def whileM (c : Slots → M Bool) (body : Slots → M Fl) : Nat → Slots → M Fl
  | 0, _ => stuck
  | f + 1, sl => exT sl (c sl) fun b => match b with
    | false => ret (.nx sl)
    | true => fun S => match body sl S with
      | .ok (.nx sl2) S2 => whileM c body f sl2 S2
      | .ok (.ct sl2) S2 => whileM c body f sl2 S2
      | .ok (.bk sl2) S2 => .ok (.nx sl2) S2
      | r => r
theorem s_while (fuel : Nat) (hc : ST m T k c t sc N ow a ga) (hb : SSs m T k c t sc N ow sts f) : SS m T k c t sc N ow (.While a sts [] pos) (whileM ga f fuel) := fun X g Wx tk => by
  refine (ps_while g.own (hc X g Wx tk) (hb X g Wx tk)).imp fun D σ H h => ?_
  obtain ⟨ad, S, sl, R, L, h⟩ := h
  refine ⟨fun n σ H => ∃ ad2 S2 sl2, Rel T m.K ad2 H S2 ∧ RelSl m.K ad2 H sl2 σ ∧ runS T m.K ad2 H (whileM ga f n sl2 S2) D Wx, ⟨fuel, ad, S, sl, R, L, h⟩, ?_⟩
  rintro n σ2 H2 ⟨ad2, S2, sl2, R2, L2, h2⟩
  cases n with
  | zero => exact h2.elim
  | succ n =>
    unfold whileM at h2
    refine ⟨ad2, S2, sl2, R2, L2, runT_imp (run_exT L2 h2) ?_⟩
    rintro b H3 ⟨ad3, S3, l3, R3, h3⟩
    cases b with
    | false => rw [if_neg Bool.false_ne_true]; exact runS_nx R3 (L2.mono l3) h3
    | true =>
      rw [if_pos rfl]
      refine ⟨fun σ H => ∃ ad2 S2 sl2, Rel T m.K ad2 H S2 ∧ RelSl m.K ad2 H sl2 σ ∧ runS T m.K ad2 H (whileM ga f n sl2 S2) D Wx, fun σ' H' hN => ⟨n, Nat.lt_succ_self n, hN⟩, ad3, S3, sl2, R3, L2.mono l3, ?_⟩
      dsimp only at h3
      cases q2 : f sl2 S3 with
      | ok fl S6 =>
        rw [q2] at h3
        cases fl with
        | nx sl6 => exact fun ad7 H7 σ7 l7 R7 L7 => ⟨ad7, S6, sl6, R7, L7, runS_mono l7 h3⟩
        | ct sl6 => exact fun ad7 H7 σ7 l7 R7 L7 => ⟨ad7, S6, sl6, R7, L7, runS_mono l7 h3⟩
        | bk sl6 => exact h3
        | rt w => exact h3
        | xx x s => exact h3
      | ex x S => rw [q2] at h3; exact h3
      | bad => rw [q2] at h3; exact h3
end
end RP

/-! RpG: list comprehensions. -/
namespace RP
open PySem L2

/-- several names take values -/
def setAll (sl : Slots) (is : List Nat) (ws : List W) : Slots := (is.zip ws).foldl (fun sl p => sl.set p.1 (some p.2)) sl
def setAllV (σ : St) (is : List Nat) (vs : List V) : St := (is.zip vs).foldl (fun σ p => σ.set p.1 (some p.2)) σ
def gNames (is : List Nat) : TGs := fun vs σ H Q => vs.length = is.length ∧ Q (setAllV σ is vs) H
theorem RelSl.setAll {K : PySem.W.Frag} {ad : List Addr} {H : Hp} : ∀ {is : List Nat} {ws : List W} {vs : List V} {sl : Slots} {σ : St}, RelSl K ad H sl σ → RelWs K ad H ws vs → RelSl K ad H (setAll sl is ws) (setAllV σ is vs)
  | [], _, _, _, _, L, _ => L
  | i :: is, _, _, _, _, L, .nil => L
  | i :: is, _, _, _, _, L, .cons r rr => RelSl.setAll (is := is) (L.set r i) rr
def wipeS (sl : Slots) : List Nat → Slots
  | [] => sl
  | v :: vs => (wipeS sl vs).set v none
theorem RelSl.wipe {K : PySem.W.Frag} {ad : List Addr} {H : Hp} {sl : Slots} {σ : St} (L : RelSl K ad H sl σ) : ∀ vs : List Nat, RelSl K ad H (wipeS sl vs) (L2.wipe σ vs)
  | [] => L
  | v :: vs => (RelSl.wipe L vs).clear v
theorem wipe_set {x : Option V} : ∀ {vs : List Nat} {i : Nat} (σ : St), i ∈ vs → L2.wipe (σ.set i x) vs = L2.wipe σ vs
  | v :: vs, i, σ, h => by
    unfold L2.wipe
    by_cases e : i ∈ vs
    · rw [wipe_set σ e]
    · have hi : i = v := by
        rcases List.mem_cons.mp h with h | h
        · exact h
        · exact absurd h e
      subst hi
      clear h
      have key : ∀ (vs : List Nat) (τ : St), i ∉ vs → (L2.wipe (τ.set i x) vs) = (L2.wipe τ vs).set i x := by
        intro vs
        induction vs with
        | nil => intro τ _; rfl
        | cons w ws ih =>
          intro τ hn
          unfold L2.wipe
          rw [ih τ (fun z => hn (List.mem_cons_of_mem _ z)), List.set_comm _ _ (fun z => hn (by rw [z]; exact List.mem_cons_self))]
      rw [key vs σ e, List.set_set]
theorem wipe_wipe : ∀ (σ : St) (vs : List Nat), L2.wipe (L2.wipe σ vs) vs = L2.wipe σ vs := by
  intro σ vs
  have key : ∀ (ws us : List Nat) (τ : St), (∀ i ∈ ws, i ∈ us) → L2.wipe (L2.wipe τ ws) us = L2.wipe τ us := by
    intro ws
    induction ws with
    | nil => intro us τ _; rfl
    | cons w ws ih =>
      intro us τ h
      show L2.wipe ((L2.wipe τ ws).set w none) us = _
      rw [wipe_set _ (h w List.mem_cons_self), ih us τ fun i hi => h i (List.mem_cons_of_mem _ hi)]
  exact key vs vs σ fun _ h => h
theorem wipe_setAll {vs : List Nat} : ∀ {is : List Nat} {xs : List V} (σ : St), (∀ i ∈ is, i ∈ vs) → L2.wipe (setAllV σ is xs) vs = L2.wipe σ vs
  | [], _, _, _ => rfl
  | i :: is, [], _, _ => rfl
  | i :: is, x :: xs, σ, h => by
    show L2.wipe (setAllV (σ.set i (some x)) is xs) vs = _
    rw [wipe_setAll (is := is) (xs := xs) _ (fun j hj => h j (List.mem_cons_of_mem _ hj)), wipe_set σ (h i List.mem_cons_self)]

/-- the loop of a comprehension -/
def lcM (v : View) (g : W → Slots → M Slots) (test : Slots → M Bool) (elt : Slots → M W) (sl0 : Slots) : Nat → Nat → List W → M (List W)
  | 0, _, _ => stuck
  | f + 1, n, acc => fun S => match v S with
    | none => .bad
    | some ws => match ws[n]? with
      | none => .ok acc S
      | some w => match g w sl0 S with
        | .ok sl1 S1 => match test sl1 S1 with
          | .ok false S2 => lcM v g test elt sl0 f (n + 1) acc S2
          | .ok true S2 => match elt sl1 S2 with
            | .ok y S3 => if acc.length < sizeLine then lcM v g test elt sl0 f (n + 1) (acc ++ [y]) S3 else .bad
            | _ => .bad
          | _ => .bad
        | _ => .bad
def lcV (v : View) (g : W → Slots → M Slots) (test : Slots → M Bool) (elt : Slots → M W) (sl0 : Slots) : M W := fun S => match v S with
  | none => .bad
  | some ws => match lcM v g test elt sl0 (ws.length + 1) 0 [] S with
    | .ok acc S' => .ok (.ref S'.length) (S' ++ [.lst acc])
    | _ => .bad
def bdI (m : M View) (k : View → M W) : M W := fun S => match m S with
  | .ok v S' => k v S'
  | .ex x S' => .ex x S'
  | .bad => .bad
/-- the target of a comprehension: one name, or a tuple of names -/
inductive Tgt where
  | one (i : Nat) | many (is : List Nat)
def Tgt.ix : Tgt → List Nat
  | .one i => [i]
  | .many is => is
def Tgt.g : Tgt → W → Slots → M Slots
  | .one i => fun w sl => ret (sl.set i (some w))
  | .many is => fun w sl S => match w with
    | .tup ws => if ws.length = is.length then .ok (setAll sl is ws) S else .bad
    | _ => .bad
def Tgt.t (K : PySem.W.Frag) : Tgt → TG
  | .one i => gName i
  | .many is => gTup K is.length (gNames is)
def STg (m : Mo) (T : Tab) (k : Nat) (c t : Bool) (sc : Scope) (N ow : List Str) (tg : Expr) (g : Tgt) : Prop := ∀ X, Good m k c t sc N ow X → PG X tg (g.t m.K)

section
variable {m : Mo} {T : Tab} {k : Nat} {c t : Bool} {sc : Scope} {N ow : List Str} {pos : Pos}
theorem tg_one (i : Nat) {x : Str} (hi : N[i]? = some x := by rfl) (hx : LocO sc ow x := by first | exact Or.inl rfl | exact Or.inr ⟨rfl, by decide +kernel⟩) : STg m T k c t sc N ow (.Name x pos) (.one i) := fun X g =>
  pg_name (i := i) (by rw [g.hN]; exact g.nd) (by rw [g.hN]; exact hi) (loc_of g hx) (hf_of g hx)
/-- the names of a tuple target -/
structure NamesAt (sc : Scope) (N ow : List Str) (xs : List Str) (is : List Nat) : Prop where
  len : xs.length = is.length
  at_ : ∀ (j : Nat) (x : Str) (i : Nat), xs[j]? = some x → is[j]? = some i → N[i]? = some x ∧ LocO sc ow x
theorem pgs_names {X : Cx} (g : Good m k c t sc N ow X) : ∀ (es : List Expr) (xs : List Str) (ps : List Pos) (is : List Nat), es = (xs.zip ps).map (fun p => Expr.Name p.1 p.2) → xs.length = ps.length → NamesAt sc N ow xs is →
    (∀ (y : Str) (q : Pos) (es' : List Expr), (assignEach (.Name y q :: es') X.env).map (·.2) = assign (.Name y q) X.env :: (assignEach es' X.env).map (·.2)) → PGs X es (gNames is)
  | es, [], ps, is, he, hl, hn, ha => by
    have : is = [] := List.eq_nil_of_length_eq_zero (by rw [← hn.len]; rfl)
    subst this
    subst he
    exact pgs_nil.imp fun vs σ H Q h => by
      obtain ⟨h1, h2⟩ := h
      have : vs = [] := List.eq_nil_of_length_eq_zero h1
      subst this
      exact ⟨rfl, h2⟩
  | es, x :: xs, [], is, he, hl, hn, ha => by simp at hl
  | es, x :: xs, p :: ps, [], he, hl, hn, ha => by have := hn.len; simp at this
  | es, x :: xs, p :: ps, i :: is, he, hl, hn, ha => by
    subst he
    have h0 := hn.at_ 0 x i rfl rfl
    have h1 : PG X (.Name x p) (gName i) := pg_name (i := i) (by rw [g.hN]; exact g.nd) (by rw [g.hN]; exact h0.1) (loc_of g h0.2) (hf_of g h0.2)
    have h2 := pgs_names g ((xs.zip ps).map (fun p => Expr.Name p.1 p.2)) xs ps is rfl (by simpa using hl) ⟨by simpa using hn.len, fun j x i a b => hn.at_ (j + 1) x i (by simpa using a) (by simpa using b)⟩ ha
    refine (pgs_cons h1 h2 (ha _ _ _)).imp fun vs σ H Q h => ?_
    obtain ⟨hq, h⟩ := h
    match vs, hq with
    | v :: vs, hq => exact ⟨v, vs, rfl, by simpa using hq, h⟩
theorem tg_many {es : List Expr} {j : Nat} (xs : List Str) (ps : List Pos) (is : List Nat) (hc : c = true) (he : es = (xs.zip ps).map (fun p => Expr.Name p.1 p.2) := by rfl) (hl : xs.length = ps.length := by rfl) (hn : NamesAt sc N ow xs is)
    (ha : ∀ env (y : Str) (q : Pos) (es' : List Expr), (assignEach (.Name y q :: es') env).map (·.2) = assign (.Name y q) env :: (assignEach es' env).map (·.2) := by intro _ _ _ _; rfl)
    (hn2 : ∀ env, (assignEach es env).length = is.length := by intro _; rfl) (hst : ∀ env, (assignEach es env).findIdx? (·.1) = none := by intro _; rfl) : STg m T k c t sc N ow (.Tuple es j pos) (.many is) := fun X g => by
  have ek : X.K = m.K := by rw [← g.mo]; rfl
  show PG X _ (gTup m.K is.length (gNames is))
  rw [← ek]
  exact pg_tup (g.calm hc) (pgs_names g es xs ps is he hl hn (ha _)) (hn2 _) (hst _)
/-- a target's exact reading -/
theorem tgt_run {K : PySem.W.Frag} {ad : List Addr} {H : Hp} {S S1 : Sto} {g : Tgt} {w : W} {x : V} {sl sl1 : Slots} {σ : St} {Q : St → Hp → Prop} (R : Rel T K ad H S) (L : RelSl K ad H sl σ) (r : RelW K ad H w x) (e : g.g w sl S = .ok sl1 S1)
    (h : ∀ σ1, S1 = S → RelSl K ad H sl1 σ1 → (∀ vs, (∀ i ∈ g.ix, i ∈ vs) → L2.wipe σ1 vs = L2.wipe σ vs) → Q σ1 H) : g.t K x σ H Q := by
  cases g with
  | one i =>
    cases e
    exact h _ rfl (L.set r i) fun vs hi => wipe_set σ (hi i List.mem_cons_self)
  | many is =>
    unfold Tgt.g at e
    dsimp only at e
    split at e
    · split at e
      · rename_i hl
        cases e
        cases r with
        | tup s1 r1 => exact ⟨_, _, rfl, s1, by rw [← r1.length]; exact hl, by rw [← r1.length]; exact hl, h _ rfl (L.setAll r1) fun vs hi => wipe_setAll σ hi⟩
      · cases e
    · cases e
end

/-! ### the block's context -/
theorem takes_blk {X : Cx} {s : Shared} {H : Hp} {scope : Scope} {cenv : Env} {fp : List Addr} : Takes (X.blk s H scope cenv fp) (fun _ _ _ _ => False) := fun u s' ⟨_, _, _, _, _, _, _, _, _, _, _, _, _, _, _, _, w⟩ => w
def cellsOf (scope : Scope) : List Str := (scope.names.filter fun y => match y.2 with | .cell => true | _ => false).map (·.1)
section
variable {m : Mo} {T : Tab} {k : Nat} {c t : Bool} {sc scope : Scope} {N ow : List Str} {pos : Pos} {X : Cx}
theorem good_blk (g : Good m k c t sc N ow X) (uq : ∀ y ∈ scope.names, scope.names.lookup y.1 = some y.2) (s : Shared) (H : Hp) (C : Addr) (cl : List (Str × Addr)) (fp : List Addr) :
    Good m k c false (relS scope sc) N (cellsOf scope) (X.blk s H scope (compEnvC scope cl C X.env) fp) where
  mo := by rw [← g.mo]; rfl
  hsc := by
    show relabel scope X.env = _
    rw [← g.hsc]
    rfl
  hN := g.hN
  nd := g.nd
  calm := g.calm
  room := g.room
  un := g.un
  own := PassesOwn.never
  fn := fun x hx => by
    obtain ⟨y, hy, e⟩ := List.mem_map.mp hx
    obtain ⟨h1, h2⟩ := List.mem_filter.mp hy
    have q := uq y h1
    show (scope.names.lookup x == some NameKind.cell) = true
    rw [← e, q]
    revert h2
    cases y.2 <;> simp
  top := fun z => by cases z
end
section
variable {m : Mo} {T : Tab} {k : Nat} {c t : Bool} {sc scope : Scope} {N ow : List Str} {pos : Pos} {elt tg iter : Expr} {ifs : List Expr} {fi : Slots → M View} {gt : Tgt} {ft : Slots → M Bool} {fe : Slots → M W}
/-- the tests of a clause -/
def STs (m : Mo) (T : Tab) (k : Nat) (c t : Bool) (sc : Scope) (N ow : List Str) (ifs : List Expr) (f : Slots → M Bool) : Prop := ∀ X, Good m k c t sc N ow X → ∀ Wx, Takes X Wx → PTs X ifs (rdT T m.K f Wx)
theorem ts_nil : STs m T k c t sc N ow [] (fun _ => ret true) := fun X g Wx tk => ⟨fun pins s σ H Q I h => pts_nil.run pins s σ H Q I (by
  obtain ⟨ad, S, sl, R, L, h⟩ := h
  exact h _ _ Le.refl R)⟩
theorem ts_one {e : Expr} (h : ST m T k c t sc N ow e ft) : STs m T k c t sc N ow [e] ft := fun X g Wx tk => pts_one (h X g Wx tk)
theorem lc_run {K : PySem.W.Frag} {ad : List Addr} {H : Hp} {S : Sto} {sl : Slots} {σ : St} {Q : VK} {E : XK} {J : It} {v : View} {own : List Nat} (R : Rel T K ad H S) (L : RelSl K ad H sl σ) (rJ : RelIt T K ad H v J) (hix : ∀ i ∈ gt.ix, i ∈ own)
    (h : run T K ad H (lcV v gt.g ft fe (wipeS sl own) S) Q E) : ∀ D, H D = none → ∃ Wv : Nat → Nat → Hp → Prop, (∃ m, Wv 0 m (upd H D (.lst []))) ∧ ∀ i m H, Wv i m H →
  (J.stop i H ∧ Q (.ref D) H) ∨ (J.go i H ∧ ∃ Nx : Hp → Prop, (∀ H', Nx H' → ∃ m', m' < m ∧ Wv (i + 1) m' H') ∧ ∀ x H', J.yld i H x H' → gt.t K x (L2.wipe σ own) H' fun σ2 H2 => L2.wipe σ2 own = L2.wipe σ own ∧ rdT T K ft (fun _ _ _ _ => False) σ2 H2 fun b H3 =>
    if b = true then rd T K fe (fun _ _ _ _ => False) σ2 H3 fun y H4 => ∃ acc, H4 D = some (.lst acc) ∧ acc.length < sizeLine ∧ Nx (upd H4 D (.lst (acc ++ [y]))) else Nx H3) := by
  intro D hD
  unfold lcV at h
  split at h
  · exact h.elim
  · rename_i ws0 e0
    generalize hf : ws0.length + 1 = fuel at h
    refine ⟨fun i n H1 => ∃ ad1 S1 acc vs, Le K ad H ad1 H1 ∧ D ∉ ad1 ∧ Rel T K ad1 H1 S1 ∧ H1 D = some (.lst vs) ∧ RelWs K ad1 H1 acc vs ∧
      run T K ad H (match lcM v gt.g ft fe (wipeS sl own) n i acc S1 with | .ok acc S' => .ok (.ref S'.length) (S' ++ [.lst acc]) | _ => .bad) Q E, ?_, ?_⟩
    · exact ⟨fuel, ad, S, [], [], Le.same0 (same_new hD), R.new hD, R.same (same_new hD), upd_same, .nil, h⟩
    · rintro i n H1 ⟨ad1, S1, acc, vs, l1, hd1, R1, eD, ra, h1⟩
      cases n with
      | zero => exact h1.elim
      | succ n =>
        unfold lcM at h1
        cases ev : v S1 with
        | none => rw [ev] at h1; exact h1.elim
        | some ws =>
          rw [ev] at h1
          dsimp only at h1
          obtain ⟨go, stop, yld⟩ := rJ ad1 H1 S1 l1.up R1 ws ev i
          cases ew : ws[i]? with
          | none =>
            rw [ew] at h1
            refine .inl ⟨stop (List.getElem?_eq_none_iff.mp ew), ?_⟩
            refine h1 (ad1 ++ [D]) H1 (.ref D) ⟨l1.pre.trans ⟨_, rfl⟩, l1.fwd, fun b hb hn => ?_, l1.frm, l1.xd, l1.own, l1.dom⟩ (R1.take hd1 eD ra) (.ref (by rw [← R1.len]; simp))
            rcases List.mem_append.mp hb with hb | hb
            · exact l1.new b hb hn
            · have : b = D := by simpa using hb
              rw [this]; exact hD
          | some w =>
            rw [ew] at h1
            dsimp only at h1
            refine .inr ⟨go (List.getElem?_eq_some_iff.mp ew).1, fun H' => ∃ ad1 S1 acc vs, Le K ad H ad1 H' ∧ D ∉ ad1 ∧ Rel T K ad1 H' S1 ∧ H' D = some (.lst vs) ∧ RelWs K ad1 H' acc vs ∧
              run T K ad H (match lcM v gt.g ft fe (wipeS sl own) n (i + 1) acc S1 with | .ok acc S' => .ok (.ref S'.length) (S' ++ [.lst acc]) | _ => .bad) Q E, fun H' hN => ⟨n, Nat.lt_succ_self n, hN⟩, fun x H2 y => ?_⟩
            obtain ⟨sm, rx⟩ := yld x H2 y w ew
            have l2 : Le K ad1 H1 ad1 H2 := Le.same0 sm
            have R2 := R1.same sm
            cases eg : gt.g w (wipeS sl own) S1 with
            | ok sl2 S2 =>
              rw [eg] at h1
              dsimp only at h1
              refine tgt_run R2 (((L.mono l1).mono l2).wipe own) rx eg fun σ2 eS L2 hw => ⟨?_, ?_⟩
              · rw [hw own hix]
                exact wipe_wipe σ own
              subst eS
              refine ⟨ad1, S2, sl2, R2, L2, ?_⟩
              have keepD : ∀ {ad3 : List Addr} {H3 : Hp}, Le K ad1 H2 ad3 H3 → H3 D = some (.lst vs) ∧ D ∉ ad3 := fun {ad3 H3} l3 => by
                refine ⟨l3.frm D _ (sm _ _ eD) trivial hd1, fun hm => ?_⟩
                have z := l3.new D hm hd1
                rw [sm _ _ eD] at z; cases z
              cases et : ft sl2 S2 with
              | ok b S3 =>
                rw [et] at h1
                intro ad3 H3 l3 R3
                obtain ⟨eD3, hd3⟩ := keepD l3
                cases b with
                | false =>
                  rw [if_neg Bool.false_ne_true]
                  exact ⟨ad3, S3, acc, vs, (l1.trans l2).trans l3, hd3, R3, eD3, (ra.mono l2).mono l3, h1⟩
                | true =>
                  rw [if_pos rfl]
                  dsimp only at h1
                  refine ⟨ad3, S3, sl2, R3, L2.mono l3, ?_⟩
                  cases ee : fe sl2 S3 with
                  | ok yw S4 =>
                    rw [ee] at h1
                    dsimp only at h1
                    intro ad4 H4 yv l4 R4 ry
                    obtain ⟨eD4, hd4⟩ := keepD (l3.trans l4)
                    by_cases hz : acc.length < sizeLine
                    · rw [if_pos hz] at h1
                      have ra4 := ((ra.mono l2).mono l3).mono l4
                      have b5 : But D H4 (upd H4 D (.lst (vs ++ [yv]))) := But.upd eD4 trivial
                      have u5 : Up K ad4 H4 ad4 (upd H4 D (.lst (vs ++ [yv]))) := ⟨List.prefix_rfl, fun a xs q => by
                        rcases q with (q | ⟨o, q⟩) | q
                        · exact .inl (.inl (b5.tup _ _ q))
                        · exact .inl (.inr ⟨o, b5.keep _ _ (fun z => by rw [z, eD4] at q; cases q) trivial q⟩)
                        · exact .inr q⟩
                      exact ⟨vs, eD4, by rw [← ra4.length]; exact hz, ad4, S4, acc ++ [yw], vs ++ [yv], (((l1.trans l2).trans l3).trans l4).off hD eD4, hd4, R4.off hd4 u5 b5 (by rw [eD4]; intro z; cases z) (by intro x; rw [eD4]; intro z; cases z), upd_same, (ra4.append (.cons ry .nil)).up u5, h1⟩
                    · rw [if_neg hz] at h1; exact h1.elim
                  | ex x S => rw [ee] at h1; exact h1.elim
                  | bad => rw [ee] at h1; exact h1.elim
              | ex x S => rw [et] at h1; exact h1.elim
              | bad => rw [et] at h1; exact h1.elim
            | ex x S => rw [eg] at h1; exact h1.elim
            | bad => rw [eg] at h1; exact h1.elim
theorem run_bdI {K : PySem.W.Frag} {ad : List Addr} {H : Hp} {S : Sto} {Q : VK} {E : XK} {f : M View} {g : View → M W} (h : run T K ad H (bdI f g S) Q E) :
    runI T K ad H (f S) (fun J H1 => ∃ ad1 S1 v, Le K ad H ad1 H1 ∧ Rel T K ad1 H1 S1 ∧ RelIt T K ad1 H1 v J ∧ run T K ad1 H1 (g v S1) Q E) E := by
  unfold bdI at h
  cases q : f S with
  | ok w S1 => rw [q] at h; exact fun a b c l R r => ⟨a, S1, w, l, R, r, run_mono l h⟩
  | ex x S => rw [q] at h; exact h
  | bad => rw [q] at h; exact h
theorem blk_uq {N : List Str} {sc scope : Scope} {own : List (Str × Nat)} (h : BlkOk N sc scope own) : ∀ y ∈ scope.names, scope.names.lookup y.1 = some y.2 := h.uniq
theorem lc_pi {own : List (Str × Nat)} (hok : BlkOk N sc scope own) (hi : SIt m T k c t sc N ow tg iter fi)
    (hix : ∀ i ∈ gt.ix, i ∈ own.map (·.2)) {X : Cx} (g : Good m k c t sc N ow X) {Wx : WX} (tk : Takes X Wx) {σ : St} {H : Hp} {Q : VK} (h : rd T m.K (fun sl => bdI (fi sl) fun v => lcV v gt.g ft fe (wipeS sl (own.map (·.2)))) Wx σ H Q) :
    tLc (rdI T m.K fi Wx) (gt.t m.K) (rdT T m.K ft (fun _ _ _ _ => False)) (rd T m.K fe (fun _ _ _ _ => False)) (own.map (·.2)) σ H Q := by
  obtain ⟨ad, S, sl, R, L, h⟩ := h
  refine ⟨ad, S, sl, R, L, runI_imp (run_bdI h) ?_⟩
  rintro J H1 ⟨ad1, S1, v, l1, R1, r1, h1⟩
  exact lc_run R1 (L.mono l1) r1 hix h1
/-- [elt for target in iter if ..] -/
theorem e_lc (own : List (Str × Nat)) (hc : c = true) (hi : SIt m T k c t sc N ow tg iter fi) (hok : blkC N sc scope own = true) (hg : STg m T k c false (relS scope sc) N (cellsOf scope) tg gt) (ht : STs m T k c false (relS scope sc) N (cellsOf scope) ifs ft)
    (he : SE m T k c false (relS scope sc) N (cellsOf scope) elt fe) (hix : ∀ i ∈ gt.ix, i ∈ own.map (·.2) := by decide) (hs : ∀ env x, foldedSetIterable iter env x = pure x := by intro _ _; rfl) :
    SE m T k c t sc N ow (.ListComp elt [⟨tg, iter, ifs, 0⟩] scope pos) (fun sl => bdI (fi sl) fun v => lcV v gt.g ft fe (wipeS sl (own.map (·.2)))) := fun X g Wx tk => by
  have ok := blkOk_by hok
  refine (pe_lc (own := own) (g.calm hc) (by rw [g.hN]; exact g.nd) (hi X g Wx tk) (by rw [g.hN, g.hsc]; exact ok) (fun s H C cl fp => hg _ (good_blk g ok.uniq s H C cl fp)) (fun s H C cl fp => ht _ (good_blk g ok.uniq s H C cl fp) _ takes_blk)
    (fun s H C cl fp => he _ (good_blk g ok.uniq s H C cl fp) _ takes_blk) (hs _)).imp fun σ H Q h => lc_pi ok hi hix g tk h
/-- name = [..], the name a local, on one line -/
theorem s_setLc (own : List (Str × Nat)) (i : Nat) {y : Str} {py spos : Pos} (hc : c = true) (hi : SIt m T k c t sc N ow tg iter fi) (hok : blkC N sc scope own = true) (hg : STg m T k c false (relS scope sc) N (cellsOf scope) tg gt) (ht : STs m T k c false (relS scope sc) N (cellsOf scope) ifs ft)
    (he : SE m T k c false (relS scope sc) N (cellsOf scope) elt fe) (hix : ∀ i ∈ gt.ix, i ∈ own.map (·.2) := by decide) (hy : N[i]? = some y := by rfl) (hyl : sc.names.lookup y = some .local := by rfl) (hk : sc.kind = .function := by rfl) (hl : (py.line == pos.line) = true := by rfl)
    (ha : (scope.names.any fun (n, k) => n == y && (k == .local || k == .cell)) = false := by decide +kernel) (hs : ∀ env x, foldedSetIterable iter env x = pure x := by intro _ _; rfl) :
    SS m T k c t sc N ow (.Assign [.Name y py] (.ListComp elt [⟨tg, iter, ifs, 0⟩] scope pos) spos) (fun sl => exS sl (bdI (fi sl) fun v => lcV v gt.g ft fe (wipeS sl (own.map (·.2)))) fun w => ret (.nx (sl.set i (some w)))) := fun X g Wx tk => by
  have ok := blkOk_by hok
  refine (ps_setLc (i := i) (own := own) (g.calm hc) (by rw [g.hN]; exact g.nd) (by rw [g.hN]; exact hy) (by rw [g.hsc]; exact hyl) (sw_true (by rw [g.hsc]; exact hk) (by rw [g.hsc]; exact hyl) hl ha) (hi X g Wx tk) (by rw [g.hN, g.hsc]; exact ok) (fun s H C cl fp => hg _ (good_blk g ok.uniq s H C cl fp))
    (fun s H C cl fp => ht _ (good_blk g ok.uniq s H C cl fp) _ takes_blk) (fun s H C cl fp => he _ (good_blk g ok.uniq s H C cl fp) _ takes_blk) (hs _)).imp fun D σ H h => ?_
  obtain ⟨ad, S, sl, R, L, h⟩ := h
  refine lc_pi ok hi hix g tk ⟨ad, S, sl, R, L, run_imp (run_exS L h) ?_⟩
  rintro v H1 ⟨ad1, S1, w1, l1, R1, r1, h1⟩
  exact runS_nx R1 ((L.mono l1).set r1 i) h1
/-! ### what is walked -/
variable {a : Expr} {fa : Slots → M W} {es : List Expr} {fs : Slots → M (List W)}
def seqV (w : W) : M View := fun S => match w with
  | .tup ws => .ok (fun _ => some ws) S
  | .ref i => match seqOf S i with
    | some _ => .ok (fun S => seqOf S i) S
    | none => .bad
  | .str x => .ok (fun _ => some (x.cps.toList.map fun n => W.str ⟨#[n]⟩)) S
  | _ => .bad
theorem it_list {K : PySem.W.Frag} {ad : List Addr} {H : Hp} {i : Nat} {p : Addr} (e : ad[i]? = some p) : RelIt T K ad H (fun S => seqOf S i) (Itl K p) := fun ad' H' S' l R ws hw n => by
  obtain ⟨vs, q, r⟩ := R.seq (pre_get l.pre e) hw
  refine ⟨fun hn => ?_, fun hn => ⟨vs, q, by rw [← r.length]; exact hn⟩, fun x H2 y w hw2 => ?_⟩
  · obtain ⟨v, hv, _⟩ := r.get (List.getElem?_eq_getElem hn)
    exact ⟨vs, v, q, hv⟩
  · obtain ⟨rfl, y⟩ := y
    obtain ⟨v, hv, rv⟩ := r.get hw2
    have := y vs q
    rw [hv] at this
    cases this
    exact ⟨Same.refl _, rv⟩
theorem it_tup {K : PySem.W.Frag} {ad : List Addr} {H : Hp} {ws : List W} {vs : List V} {p : Addr} (s : SqT K H p vs) (r : RelWs K ad H ws vs) : RelIt T K ad H (fun _ => some ws) (Itt K p) := fun ad' H' S' l R ws' hw n => by
  cases hw
  have q := l.fwd _ _ s
  have r := r.up l
  refine ⟨fun hn => ?_, fun hn => ⟨vs, q, by rw [← r.length]; exact hn⟩, fun x H2 y w hw2 => ?_⟩
  · obtain ⟨v, hv, _⟩ := r.get (List.getElem?_eq_getElem hn)
    exact ⟨vs, v, q, hv⟩
  · obtain ⟨rfl, y⟩ := y
    obtain ⟨v, hv, rv⟩ := r.get hw2
    have := y vs q
    rw [hv] at this
    cases this
    exact ⟨Same.refl _, rv⟩
theorem it_str {K : PySem.W.Frag} {ad : List Addr} {H : Hp} (x : Str) : RelIt T K ad H (fun _ => some (x.cps.toList.map fun n => W.str ⟨#[n]⟩)) (Its x) := fun ad' H' S' l R ws' hw n => by
  cases hw
  refine ⟨fun hn => show n < x.cps.size by simpa using hn, fun hn => show x.cps.size ≤ n by simpa using hn, fun v H2 y w hw2 => ?_⟩
  obtain ⟨rfl, cc, hc, rfl⟩ := y
  rw [List.getElem?_map] at hw2
  have : x.cps.toList[n]? = some cc := by simpa using hc
  rw [this] at hw2
  cases hw2
  exact ⟨Same.refl _, .str _⟩
theorem bd_runI {K : PySem.W.Frag} {ad : List Addr} {H : Hp} {S : Sto} {mm : M W} {kk : W → M View} {R : It → Hp → Prop} {E : XK} (h : runI T K ad H (bd mm kk S) R E) :
    run T K ad H (mm S) (fun v H1 => ∃ ad1 S1 w, Le K ad H ad1 H1 ∧ Rel T K ad1 H1 S1 ∧ RelW K ad1 H1 w v ∧ runI T K ad1 H1 (kk w S1) R E) E := by
  unfold bd at h
  cases q : mm S with
  | ok w S1 =>
    rw [q] at h
    refine fun a b c l R r => ⟨a, S1, w, l, R, r, ?_⟩
    cases q2 : kk w S1 with
    | ok v S2 => simp only [q2] at h; exact fun a' b' c' l' => h a' b' c' (l.trans l')
    | ex x S2 => simp only [q2] at h; exact fun a' b' c' d' l' => h a' b' c' d' (l.trans l')
    | bad => simp only [q2] at h; exact h
  | ex x S => rw [q] at h; exact h
  | bad => rw [q] at h; exact h
/-- for x in e: a list, a tuple, a text -/
theorem it_val (ha : SE m T k c t sc N ow a fa) : SIt m T k c t sc N ow tg a (fun sl => bd (fa sl) seqV) := fun X g Wx tk => by
  have h1 := pi_list (tg := tg) (ha X g Wx tk)
  have h2 := pi_tup (tg := tg) (ha X g Wx tk)
  have h3 := pi_str (tg := tg) (ha X g Wx tk)
  have ek : X.K = m.K := by rw [← g.mo]; rfl
  rw [ek] at h1 h2
  refine ⟨fun pins s σ H R I h => ?_⟩
  obtain ⟨ad, S, sl, Re, L, h⟩ := h
  unfold bd at h
  cases q : fa sl S with
  | ok w S1 =>
    simp only [q] at h
    cases w with
    | tup ws =>
      refine h2.run pins s σ H R I ⟨ad, S, sl, Re, L, ?_⟩
      rw [q]
      intro ad1 H1 v l1 R1 r1
      cases r1 with
      | tup s1 r2 => exact ⟨_, rfl, ⟨_, s1⟩, h ad1 H1 _ l1 R1 (it_tup s1 r2)⟩
    | ref i =>
      refine h1.run pins s σ H R I ⟨ad, S, sl, Re, L, ?_⟩
      rw [q]
      intro ad1 H1 v l1 R1 r1
      cases r1 with
      | ref e =>
        simp only [seqV] at h
        cases hs : seqOf S1 i with
        | none => rw [hs] at h; exact h.elim
        | some ws =>
          rw [hs] at h
          obtain ⟨vs, qv, _⟩ := R1.seq e hs
          exact ⟨_, rfl, ⟨_, qv⟩, h ad1 H1 _ l1 R1 (it_list e)⟩
    | str x =>
      refine h3.run pins s σ H R I ⟨ad, S, sl, Re, L, ?_⟩
      rw [q]
      intro ad1 H1 v l1 R1 r1
      cases r1
      exact ⟨x, rfl, h ad1 H1 _ l1 R1 (it_str x)⟩
    | non => exact h.elim
    | bl b => exact h.elim
    | int i => exact h.elim
    | adr i => exact h.elim
    | ty i => exact h.elim
  | ex x S1 =>
    simp only [q] at h
    refine h2.run pins s σ H R I ⟨ad, S, sl, Re, L, ?_⟩
    rw [q]
    exact h
  | bad => simp only [q] at h; exact h.elim
/-! ### range -/
def range1V (ws : List W) : M View := fun S => match ws with
  | [.int n] => if -(2 ^ 62) ≤ n ∧ n < 2 ^ 62 then .ok (fun _ => some ((List.range n.toNat).map fun (i : Nat) => W.int i)) S else .bad
  | _ => .bad
def range3V (ws : List W) : M View := fun S => match ws with
  | [.int lo, .int hi, .int c] => if c ≠ 0 ∧ c.natAbs < 1073741824 ∧ Builtin.Range.small lo hi c = true ∧ 0 ≤ Builtin.Range.rangeSize lo hi c then
      .ok (fun _ => some ((List.range (Builtin.Range.rangeSize lo hi c).toNat).map fun (i : Nat) => W.int (lo + (i : Nat) * c))) S else .bad
  | _ => .bad
theorem it_rangeC {K : PySem.W.Frag} {ad : List Addr} {H : Hp} (lo c : Int) (n : Nat) : RelIt T K ad H (fun _ => some ((List.range n).map fun (i : Nat) => W.int (lo + (i : Nat) * c))) (Itc lo c n) := fun ad' H' S' l R ws' hw j => by
  cases hw
  refine ⟨fun hn => show j < n by simpa using hn, fun hn => show n ≤ j by simpa using hn, fun v H2 y w hw2 => ?_⟩
  obtain ⟨rfl, rfl⟩ := y
  rw [List.getElem?_map] at hw2
  by_cases hj : j < n
  · rw [List.getElem?_range hj] at hw2
    cases hw2
    exact ⟨Same.refl _, .int _⟩
  · rw [List.getElem?_eq_none (by simpa using hj)] at hw2
    cases hw2
theorem it_range {K : PySem.W.Frag} {ad : List Addr} {H : Hp} (lo : Int) (n : Nat) : RelIt T K ad H (fun _ => some ((List.range n).map fun (i : Nat) => W.int (lo + i))) (Itr lo n) := fun ad' H' S' l R ws' hw j => by
  cases hw
  refine ⟨fun hn => show j < n by simpa using hn, fun hn => show n ≤ j by simpa using hn, fun v H2 y w hw2 => ?_⟩
  obtain ⟨rfl, rfl⟩ := y
  rw [List.getElem?_map] at hw2
  by_cases hj : j < n
  · rw [List.getElem?_range hj] at hw2
    cases hw2
    exact ⟨Same.refl _, .int _⟩
  · rw [List.getElem?_eq_none (by simpa using hj)] at hw2
    cases hw2
theorem bdA_runI {K : PySem.W.Frag} {ad : List Addr} {H : Hp} {S : Sto} {mm : M (List W)} {kk : List W → M View} {R : It → Hp → Prop} {E : XK} (h : runI T K ad H (bd mm kk S) R E) :
    runA T K ad H (mm S) (fun vs H1 => ∃ ad1 S1 ws, Le K ad H ad1 H1 ∧ Rel T K ad1 H1 S1 ∧ RelWs K ad1 H1 ws vs ∧ runI T K ad1 H1 (kk ws S1) R E) E := by
  unfold bd at h
  cases q : mm S with
  | ok w S1 =>
    rw [q] at h
    refine fun a b c l R r => ⟨a, S1, w, l, R, r, ?_⟩
    cases q2 : kk w S1 with
    | ok v S2 => simp only [q2] at h; exact fun a' b' c' l' => h a' b' c' (l.trans l')
    | ex x S2 => simp only [q2] at h; exact fun a' b' c' d' l' => h a' b' c' d' (l.trans l')
    | bad => simp only [q2] at h; exact h
  | ex x S => rw [q] at h; exact h
  | bad => rw [q] at h; exact h
theorem it_rng1 {p p2 : Pos} (hm : m.mg "range" = none) (ha : SA m T k c t sc N ow [a] fs) (hg : sc.names.lookup ("range" : Str) = some .globalImplicit := by rfl) (hs : ∀ env, starEach [a] env = [(false, eval a env)] := by intro _; rfl) :
    SIt m T k c t sc N ow tg (.Call (.Name "range" p) [a] [] p2) (fun sl => bd (fs sl) range1V) := fun X g Wx tk => by
  have em : X.mg = m.mg := by rw [← g.mo]; rfl
  have h1 := pi_range1 (tg := tg) (p := p) (pos := p2) (gl_of g hg) (by rw [em]; exact hm) (ha X g Wx tk) (hs _)
  refine ⟨fun pins s σ H R I h => h1.run pins s σ H R I ?_⟩
  obtain ⟨ad, S, sl, Re, L, h⟩ := h
  refine ⟨ad, S, sl, Re, L, runA_imp (bdA_runI h) ?_⟩
  rintro vs H1 ⟨ad1, S1, ws, l1, R1, r1, h1⟩
  unfold range1V at h1
  split at h1
  · split at h1
    · rename_i n hn
      match vs, r1 with
      | [_], .cons (.int _) .nil =>
        refine ⟨n, rfl, hn.1, hn.2, h1 _ _ _ Le.refl R1 ?_⟩
        have := it_range (T := T) (K := m.K) (ad := ad1) (H := H1) 0 n.toNat
        simpa using this
    · exact h1.elim
  · exact h1.elim
theorem it_rng3 {b d : Expr} {p p2 : Pos} (hm : m.mg "range" = none) (ha : SA m T k c t sc N ow [a, b, d] fs) (hg : sc.names.lookup ("range" : Str) = some .globalImplicit := by rfl) (hs : ∀ env, starEach [a, b, d] env = (false, eval a env) :: starEach [b, d] env := by intro _; rfl)
    (hpl : ∀ env, (backTo p2 (starEach [b, d] env)).any (·.1) = false := by intro _; rfl) :
    SIt m T k c t sc N ow tg (.Call (.Name "range" p) [a, b, d] [] p2) (fun sl => bd (fs sl) range3V) := fun X g Wx tk => by
  have em : X.mg = m.mg := by rw [← g.mo]; rfl
  have h1 := pi_range3 (tg := tg) (p := p) (pos := p2) (gl_of g hg) (by rw [em]; exact hm) (ha X g Wx tk) (hs _) (hpl _)
  refine ⟨fun pins s σ H R I h => h1.run pins s σ H R I ?_⟩
  obtain ⟨ad, S, sl, Re, L, h⟩ := h
  refine ⟨ad, S, sl, Re, L, runA_imp (bdA_runI h) ?_⟩
  rintro vs H1 ⟨ad1, S1, ws, l1, R1, r1, h1⟩
  unfold range3V at h1
  split at h1
  · split at h1
    · rename_i lo hi cc hn
      match vs, r1 with
      | [_, _, _], .cons (.int _) (.cons (.int _) (.cons (.int _) .nil)) =>
        exact ⟨lo, hi, cc, _, rfl, ⟨hn.1, hn.2.1, hn.2.2.1, (Int.toNat_of_nonneg hn.2.2.2).symm⟩, h1 _ _ _ Le.refl R1 (it_rangeC lo cc _)⟩
    · exact h1.elim
  · exact h1.elim
end
end RP

/-! RpH: defs of the text: their promise, their calls; instances, their fields, methods, properties. -/
namespace RP
open PySem L2

/-- a def behaves as g -/
def spM (T : Tab) (K : PySem.W.Frag) (g : List W → M W) : Sp := fun vs H Q E => ∃ ad S ws, Rel T K ad H S ∧ RelWs K ad H ws vs ∧ run T K ad H (g ws S) Q E
structure FnM (m : Mo) (T : Tab) (k : Nat) (f : Addr) (n : Nat) (g : List W → M W) : Prop where
  len : ∀ ws S, ws.length ≠ n → g ws S = .bad
  ok : ∃ fd ps, ps.length = n ∧ FnOk m.P m.w m.K m.mg m.base (CX m.P m.w) k f fd ps (spM T m.K g) ∧ Binds m.K fd ps []
  kp : PySem.W.keepIn m.K (.ref f) = true
/-- a body as a function of its arguments -/
def bodyM (L n : Nat) (fb : Slots → M Fl) (ws : List W) : M W := fun S => if ws.length = n then
    match fb (ws.map some ++ List.replicate (L - ws.length) none) S with
    | .ok (.nx _) S' => .ok .non S'
    | .ok (.rt w) S' => .ok w S'
    | .ok (.xx x _) S' => .ex x S'
    | _ => .bad
  else .bad
theorem FnM.mono {m : Mo} {T : Tab} {j k : Nat} {f : Addr} {n : Nat} {g : List W → M W} (F : FnM m T j f n g) (h : j ≤ k) : FnM m T k f n g := by
  obtain ⟨fd, ps, a, b, c⟩ := F.ok
  exact ⟨F.len, ⟨fd, ps, a, b.mono h, c⟩, F.kp⟩
/-- the same by another function -/
theorem FnM.eq {m : Mo} {T : Tab} {k : Nat} {f : Addr} {n : Nat} {g g' : List W → M W} (F : FnM m T k f n g) (h : g = g') : FnM m T k f n g' := h ▸ F
theorem not_bad {T : Tab} {K : PySem.W.Frag} {ad : List Addr} {H : Hp} {Q : VK} {E : XK} {r : Res W} (h : run T K ad H r Q E) : r ≠ .bad := fun z => by
  rw [z] at h
  exact h
theorem fn_mk {m : Mo} {T : Tab} {k : Nat} {x qual : Str} {st : Stmt} {f : Addr} {fd : FuncData} {N ps : List Str} {fb : Slots → M Fl} (F : Fun m.K x qual st f fd) (S : FnScope N ps (defScope st)) (hb : Binds m.K fd ps [])
    (h : SSs m T k true true (defScope st) N N (defBody st) fb) : FnM m T (k + 1) f ps.length (bodyM N.length ps.length fb) := by
  have len : ∀ ws S, ws.length ≠ ps.length → bodyM N.length ps.length fb ws S = .bad := fun ws S hn => by unfold bodyM; rw [if_neg hn]
  refine ⟨len, ⟨fd, ps, rfl, ?_, hb⟩, F.kp⟩
  obtain ⟨oc, od, kV, doc, pm, an, cdv, ct, osl, rfl, lk, hcd⟩ := F.ex
  refine fn_of lk hcd S (fun vs H Q E hsp => ?_) fun A outer s H vs Q E hr hsp => ?_
  · obtain ⟨ad, S, ws, R, r, h⟩ := hsp
    rw [← r.length]
    apply Classical.byContradiction
    intro hn
    exact not_bad h (len ws S hn)
  · obtain ⟨ad, S0, ws, R, r, hh⟩ := hsp
    have hl : ws.length = ps.length := Classical.byContradiction fun hn => not_bad hh (len ws S0 hn)
    have g : Good m k true true (defScope st) N N (cxOf (CX m.P m.w) m.P m.w m.K m.mg m.base N qual (defScope st) f cdv A outer s H E) :=
      ⟨rfl, rfl, rfl, S.nd, fun _ => rfl, fun _ => hr, hr.units, passes_of rfl, fun _ _ => rfl, fun _ => ⟨rfl, rfl⟩⟩
    refine ⟨_, h _ g _ (takes_of rfl rfl rfl rfl), ad, S0, _, R, RelSl.start (N := N) r, ?_⟩
    unfold bodyM at hh
    rw [if_pos hl] at hh
    cases q : fb (ws.map some ++ List.replicate (N.length - ws.length) none) S0 with
    | ok fl S1 =>
      rw [q] at hh
      cases fl with
      | nx sl => exact fun ad' H' σ' l R' L' => hh ad' H' .non l R' .non
      | rt w => exact hh
      | bk sl => exact hh.elim
      | ct sl => exact hh.elim
      | xx x sl => exact fun ad' H' cls d σ' l R' x' L' => hh ad' H' cls d l R' x'
    | ex x S1 => rw [q] at hh; exact hh.elim
    | bad => rw [q] at hh; exact hh.elim

section
variable {m : Mo} {T : Tab} {k : Nat} {c t : Bool} {sc : Scope} {N ow : List Str} {e o : Expr} {es : List Expr} {fo : Slots → M W} {fs : Slots → M (List W)} {pos p apos : Pos} {x : Str} {f C : Addr} {n : Nat} {g1 : List W → M W}
/-- the callee runs -/
theorem run_fnM {X : Cx} (g : Good m k c t sc N ow X) (hc : c = true) (F : FnM m T k f n g1) {Wx : WX} (tk : Takes X Wx) {pins : List (Addr × Obj)} {σ : St} {H : Hp} {s : Shared} {Q : VK} {us : List Value} {vs : List V} (I : Inv X pins σ H s) (r : Vals vs us)
    (h : spM T m.K g1 vs H Q fun c d H' => Wx c d σ H') : wpAny (model X.prog X.w) X.A (call (.ref f) us) (EP X pins σ Q) X.xe s := by
  have room := g.room hc
  obtain ⟨rfl, _⟩ := g
  obtain ⟨fd, ps, _, G, b⟩ := F.ok
  exact run_fnS (E := WE Wx) G room b (passAt tk σ) I r h
theorem e_call (hc : c = true) (F : FnM m T k f n g1) (hm : m.mg x = some (.ref f)) (ha : SA m T k c t sc N ow (e :: es) fs) (hg : sc.names.lookup x = some .globalImplicit := by rfl) (hdb : (x == ("__debug__" : Str)) = false := by decide)
    (he : ∀ env, starEach (e :: es) env = (false, eval e env) :: starEach es env := by intro _; rfl) (hpl : ∀ env, (backTo pos (starEach es env)).any (·.1) = false := by intro _; rfl) :
    SE m T k c t sc N ow (.Call (.Name x p) (e :: es) [] pos) (fun sl => bd (fs sl) g1) := fun X g Wx tk => by
  have hG := gl_of g hg
  have room := g.room hc
  have ha := ha X g Wx tk
  obtain ⟨rfl, _⟩ := g
  obtain ⟨fd, ps, _, G, b⟩ := F.ok
  refine (pe_callS (E := WE Wx) G room hG hm F.kp b (fun σ => passAt tk σ) ha hdb (he _) (hpl _)).imp fun σ H Q h => ?_
  obtain ⟨ad, S, sl, R, L, h⟩ := h
  refine ⟨ad, S, sl, R, L, runA_imp (runA_bd h) ?_⟩
  rintro vs H1 ⟨ad1, S1, ws, l1, R1, r1, h1⟩
  exact ⟨ad1, S1, ws, R1, r1, h1⟩
theorem e_call0 (hc : c = true) (F : FnM m T k f n g1) (hm : m.mg x = some (.ref f)) (hg : sc.names.lookup x = some .globalImplicit := by rfl) (hdb : (x == ("__debug__" : Str)) = false := by decide) :
    SE m T k c t sc N ow (.Call (.Name x p) [] [] pos) (fun sl => g1 []) := fun X g Wx tk => by
  have hG := gl_of g hg
  have g' := g
  obtain ⟨rfl, _⟩ := g
  refine ⟨fun pins s σ H Q I h => ?_⟩
  refine wpAny_Call_Name_kw (ld_glob I hG hm ?_ hdb)
  obtain ⟨ad, S, sl, R, L, h⟩ := h
  exact PySem.W.callWith_K0 I.kIn F.kp (run_fnM g' hc F tk I .nil ⟨ad, S, [], R, .nil, h⟩)
/-! ### new instances -/
/-- C(..): a new instance (sl: with slots), then __init__ -/
def makeM (sl : Bool) (cc : Nat) (g : List W → M W) (ws : List W) : M W := fun S =>
  match g (.ref S.length :: ws) (S ++ [if sl then .slo cc [] else .ins cc []]) with
  | .ok .non S' => .ok (.ref S.length) S'
  | .ok _ _ => .bad
  | .ex x S' => .ex x S'
  | .bad => .bad
theorem run_makeM {X : Cx} {j : Nat} (g : Good m k c t sc N ow X) (hc : c = true) {sl : Bool} {cc : Nat} (M : Mk m.K (T.cls cc) f) (F : FnM m T j f n g1) (hj : j + 1 ≤ k) {Wx : WX} (tk : Takes X Wx) {pins : List (Addr × Obj)} {σ : St} {H : Hp} {s : Shared} {Q : VK} {us : List Value} {vs : List V}
    (I : Inv X pins σ H s) (r : Vals vs us) (h : spM T m.K (makeM sl cc g1) vs H Q fun c d H' => Wx c d σ H') : wpAny (model X.prog X.w) X.A (call (.ref (T.cls cc)) us) (EP X pins σ Q) X.xe s := by
  have room := (g.room hc).mono hj
  obtain ⟨rfl, _⟩ := g
  obtain ⟨fd, ps, _, G, hb⟩ := F.ok
  have key : ∀ x dx, H x = none → H dx = none → dx ≠ x → spM T (moOf X).K g1 (.ref x :: vs) (upd (upd H dx (.own x)) x (.ins (T.cls cc) dx [])) (fun v H2 => v = .non ∧ Q (.ref x) H2) fun c d H' => Wx c d σ H' := fun x dx hx hdx hne => by
    obtain ⟨ad, S, ws, R, rw', h⟩ := h
    have sm : Same H (upd (upd H dx (.own x)) x (.ins (T.cls cc) dx [])) := fun b o e => by
      rw [upd_ne (ne_of_none e hx), upd_ne (ne_of_none e hdx)]
      exact e
    have l : Le (moOf X).K ad H (ad ++ [x]) _ := Le.one sm hx
    refine ⟨ad ++ [x], S ++ [if sl then .slo cc [] else .ins cc []], .ref S.length :: ws, R.alloc sm hx ?_, .cons (.ref (by rw [← R.len]; simp)) (rw'.mono l), ?_⟩
    · cases sl with
      | true => exact ⟨dx, [], .inl ⟨upd_same, rfl⟩, hne, .inl (by rw [upd_ne hne, upd_same]), .nil⟩
      | false => exact ⟨dx, [], by rw [upd_same, List.zip_nil_right], Nat.zero_le _, .nil⟩
    · unfold makeM at h
      cases q : g1 (.ref S.length :: ws) (S ++ [if sl then .slo cc [] else .ins cc []]) with
      | ok w S1 =>
        simp only [q] at h
        cases w with
        | non =>
          intro ad' H' v l' R' r'
          cases r'
          exact ⟨rfl, h ad' H' _ (l.trans l') R' (.ref (pre_get l'.pre (by rw [← R.len]; simp)))⟩
        | _ => exact h.elim
      | ex x S1 => simp only [q] at h; exact fun a b c d l' => h a b c d (l.trans l')
      | bad => simp only [q] at h; exact h.elim
  have hq := key (s.heap.objs.size + 1) s.heap.objs.size (I.hok.fresh (Nat.le_succ _)) (I.hok.fresh (Nat.le_refl _)) (Nat.ne_of_lt (Nat.lt_succ_self _))
  have I2 := Inv.made (C := T.cls cc) I
  have r2 : Vals (V.ref (s.heap.objs.size + 1) :: vs) (Value.ref (s.heap.objs.size + 1) :: us) := .cons rfl r
  have hl : (Value.ref (s.heap.objs.size + 1) :: us ++ []).length = ps.length := by
    have e := r2.length
    rw [G.len _ _ _ _ hq] at e
    rw [List.append_nil]
    exact e.symm
  have b2 := hb _ (Value.ref (s.heap.objs.size + 1) :: us) I2.kIn hl
  rw [List.append_nil] at b2
  refine wpAny_call (make_map (f := f) I.kIn M.makes M.init (beq_iff_eq.mp M.fn) (codeAny_mono (G.run _ X.stack _ _ ⟨Value.ref (s.heap.objs.size + 1) :: us, []⟩ (Value.ref (s.heap.objs.size + 1) :: us) _ _ _ (room.make (T.cls cc) us [])
    (I2.env0.make (T.cls cc) us []) b2 r2 hq) fun r s' hq' => ?_))
  cases r with
  | error e => exact passAt tk σ pins _ _ e s' I2 hq'
  | ok fl =>
    cases fl with
    | ret u =>
      obtain ⟨v, H', I3, rv, ev, q3⟩ := I2.after hq'
      subst ev
      exact ⟨rv, ⟨V.ref (s.heap.objs.size + 1), H', I3, rfl, q3⟩⟩
    | next => exact False.elim hq'
    | brk => exact False.elim hq'
    | cont => exact False.elim hq'
theorem e_make {j : Nat} (sl : Bool) (cc : Nat) (hc : c = true) (M : Mk m.K (T.cls cc) f) (F : FnM m T j f n g1) (hm : m.mg x = some (.ref (T.cls cc))) (ha : SA m T k c t sc N ow (e :: es) fs) (hj : j + 1 ≤ k := by decide) (hg : sc.names.lookup x = some .globalImplicit := by rfl) (hdb : (x == ("__debug__" : Str)) = false := by decide)
    (he : ∀ env, starEach (e :: es) env = (false, eval e env) :: starEach es env := by intro _; rfl) (hpl : ∀ env, (backTo pos (starEach es env)).any (·.1) = false := by intro _; rfl) :
    SE m T k c t sc N ow (.Call (.Name x p) (e :: es) [] pos) (fun s => bd (fs s) (makeM sl cc g1)) := fun X g Wx tk => by
  have hG := gl_of g hg
  have ha := ha X g Wx tk
  have g' := g
  obtain ⟨rfl, _⟩ := g
  refine ⟨fun pins s σ H Q I h => ?_⟩
  refine wpAny_Call_Name_kw (ld_glob I hG hm ?_ hdb)
  obtain ⟨ad, S, sl', R, L, h⟩ := h
  refine PySem.W.callWith_K (h₀ := X.base) I.ok.mod.kin M.kp (thn (ha.run pos pins s σ H _ I ⟨ad, S, sl', R, L, runA_bd h⟩) fun us s1 ⟨vs, H1, I1, r, q⟩ => ⟨I1.kIn, ?_⟩) (he _) (hpl _)
  obtain ⟨ad1, S1, ws, l1, R1, r1, h1⟩ := q
  exact run_makeM g' hc M F hj tk I1 r ⟨ad1, S1, ws, R1, r1, h1⟩
/-! ### methods -/
/-- the class of an instance of the state -/
def clsOf (S : Sto) : W → Option (Bool × Nat)
  | .ref i => match S[i]? with
    | some (.ins c _) => some (false, c)
    | some (.slo c _) => some (true, c)
    | _ => none
  | _ => none
/-- o.m(..) -/
def methM (sl : Bool) (cc : Nat) (fo : M W) (fs : M (List W)) (g : List W → M W) : M W := bd fo fun w S => if clsOf S w = some (sl, cc) then bd fs (fun ws => g (w :: ws)) S else .bad
theorem lookup_zip_none {fl : List Str} {vs : List V} {x : Str} (h : x ∉ fl) : (fl.zip vs).lookup x = none := by
  rw [List.lookup_eq_none_iff]
  intro p hp
  have := (List.of_mem_zip hp).1
  simp only [bne_iff_ne, ne_eq, beq_eq_false_iff_ne]
  intro e
  exact h (e ▸ this)
theorem clsOf_ins {K : PySem.W.Frag} {ad : List Addr} {H : Hp} {S : Sto} {w : W} {cc : Nat} {v : V} (R : Rel T K ad H S) (r : RelW K ad H w v) (e : clsOf S w = some (false, cc)) : ∃ a dx vs, v = .ref a ∧ H a = some (.ins (T.cls cc) dx ((T.fl cc).zip vs)) := by
  unfold clsOf at e
  split at e
  · split at e
    · rename_i h
      cases e
      cases r with
      | ref e1 =>
      obtain ⟨dx, vs, h1, _⟩ := R.ob _ _ _ e1 h
      exact ⟨_, dx, vs, rfl, h1⟩
    · cases e
    · cases e
  · cases e
theorem clsOf_slo {K : PySem.W.Frag} {ad : List Addr} {H : Hp} {S : Sto} {w : W} {cc : Nat} {v : V} (R : Rel T K ad H S) (r : RelW K ad H w v) (e : clsOf S w = some (true, cc)) : ∃ (a dx : Addr) (vs : List V), v = .ref a ∧ SlX.Slt H a (T.cls cc) dx (vs.map some) := by
  unfold clsOf at e
  split at e
  · split at e
    · cases e
    · rename_i h
      cases e
      cases r with
      | ref e1 =>
      obtain ⟨dx, vs, h1, _⟩ := R.ob _ _ _ e1 h
      exact ⟨_, dx, vs, rfl, h1⟩
    · cases e
  · cases e
theorem e_meth {nm : Str} {pl : Env → Sem Bool} {j : Nat} (cc : Nat) (hc : c = true) (ho : SE m T k c t sc N ow o fo) (cl : Cls m.K (T.cls cc)) (hm : Meth m.K (T.cls cc) nm f) (F : FnM m T j f n g1) (ha : SA m T k c t sc N ow (e :: es) fs) (hnf : nm ∉ T.fl cc) (hj : j ≤ k := by decide)
    (he : ∀ env, starEach (e :: es) env = (false, eval e env) :: starEach es env := by intro _; rfl) (hpl : ∀ env, (backTo pos (starEach es env)).any (·.1) = false := by intro _; rfl)
    (ht : ∀ env, eval (.Call (.Attribute o nm apos) (e :: es) [] pos) env = (do
      let ov ← eval o env
      standAt apos.atName
      let (f, first) ← holding [ov] (getMethod ov nm (pl env))
      callWith pos f first (backTo pos (starEach (e :: es) env)) (backToKw pos (keywordEach [] env))) := by intro _; rfl) :
    SE m T k c t sc N ow (.Call (.Attribute o nm apos) (e :: es) [] pos) (fun s => methM false cc (fo s) (fs s) g1) := fun X g Wx tk => by
  have ho := ho X g Wx tk
  have ha := ha X g Wx tk
  have g' := g
  obtain ⟨rfl, _⟩ := g
  refine ⟨fun pins s σ H Q I h => ?_⟩
  obtain ⟨ad, S, sl, R, L, h⟩ := h
  refine PySem.W.methodCall_KW (pl := pl X.env) (thn (ho.run pins s σ H _ I ⟨ad, S, sl, R, L, run_bd h⟩) fun u s1 ⟨xv, H1, I1, rx, ad1, S1, w1, l1, R1, r1, h1⟩ => ?_) (ht _)
  split at h1
  · rename_i hcl
    obtain ⟨a, dx, vs, rfl, ea⟩ := clsOf_ins R1 r1 hcl
    obtain rfl : u = Value.ref a := rx
    refine getmeth_ok I1 ea cl hm (lookup_zip_none hnf) ?_
    refine PySem.W.callWith_K (first := [.ref a]) (h₀ := X.base) I.ok.mod.kin hm.kp (thn (ha.run pos pins s1 σ H1 _ I1 ⟨ad1, S1, sl, R1, L.mono l1, runA_bd h1⟩) fun us s2 ⟨vs2, H2, I2, r, ad2, S2, ws, l2, R2, r2, h2⟩ => ⟨I2.kIn, ?_⟩) (he _) (hpl _)
    exact run_fnM (us := .ref a :: us) (vs := .ref a :: vs2) g' hc (F.mono hj) tk I2 (.cons rfl r) ⟨ad2, S2, w1 :: ws, R2, .cons (r1.mono l2) r2, h2⟩
  · exact h1.elim
theorem e_meth0 {nm : Str} {pl : Env → Sem Bool} {j : Nat} (cc : Nat) (hc : c = true) (ho : SE m T k c t sc N ow o fo) (cl : Cls m.K (T.cls cc)) (hm : Meth m.K (T.cls cc) nm f) (F : FnM m T j f n g1) (hnf : nm ∉ T.fl cc) (hj : j ≤ k := by decide)
    (ht : ∀ env, eval (.Call (.Attribute o nm apos) [] [] pos) env = (do
      let ov ← eval o env
      standAt apos.atName
      let (f, first) ← holding [ov] (getMethod ov nm (pl env))
      callWith pos f first (backTo pos (starEach [] env)) (backToKw pos (keywordEach [] env))) := by intro _; rfl) :
    SE m T k c t sc N ow (.Call (.Attribute o nm apos) [] [] pos) (fun s => methM false cc (fo s) (ret []) g1) := fun X g Wx tk => by
  have ho := ho X g Wx tk
  have g' := g
  obtain ⟨rfl, _⟩ := g
  refine ⟨fun pins s σ H Q I h => ?_⟩
  obtain ⟨ad, S, sl, R, L, h⟩ := h
  refine PySem.W.methodCall_KW (pl := pl X.env) (thn (ho.run pins s σ H _ I ⟨ad, S, sl, R, L, run_bd h⟩) fun u s1 ⟨xv, H1, I1, rx, ad1, S1, w1, l1, R1, r1, h1⟩ => ?_) (ht _)
  split at h1
  · rename_i hcl
    obtain ⟨a, dx, vs, rfl, ea⟩ := clsOf_ins R1 r1 hcl
    obtain rfl : u = Value.ref a := rx
    refine getmeth_ok I1 ea cl hm (lookup_zip_none hnf) ?_
    exact PySem.W.callWith_K0 (first := [.ref a]) I1.kIn hm.kp (run_fnM (us := [.ref a]) (vs := [.ref a]) g' hc (F.mono hj) tk I1 (.cons rfl .nil) ⟨ad1, S1, [w1], R1, .cons r1 .nil, h1⟩)
  · exact h1.elim
theorem e_methS {nm : Str} {pl : Env → Sem Bool} {j : Nat} (cc : Nat) (hc : c = true) (ho : SE m T k c t sc N ow o fo) (cl : SlX.SCls m.K (T.cls cc)) (hm : Meth m.K (T.cls cc) nm f) (F : FnM m T j f n g1) (ha : SA m T k c t sc N ow (e :: es) fs) (hj : j ≤ k := by decide)
    (he : ∀ env, starEach (e :: es) env = (false, eval e env) :: starEach es env := by intro _; rfl) (hpl : ∀ env, (backTo pos (starEach es env)).any (·.1) = false := by intro _; rfl)
    (ht : ∀ env, eval (.Call (.Attribute o nm apos) (e :: es) [] pos) env = (do
      let ov ← eval o env
      standAt apos.atName
      let (f, first) ← holding [ov] (getMethod ov nm (pl env))
      callWith pos f first (backTo pos (starEach (e :: es) env)) (backToKw pos (keywordEach [] env))) := by intro _; rfl) :
    SE m T k c t sc N ow (.Call (.Attribute o nm apos) (e :: es) [] pos) (fun s => methM true cc (fo s) (fs s) g1) := fun X g Wx tk => by
  have ho := ho X g Wx tk
  have ha := ha X g Wx tk
  have g' := g
  obtain ⟨rfl, _⟩ := g
  refine ⟨fun pins s σ H Q I h => ?_⟩
  obtain ⟨ad, S, sl, R, L, h⟩ := h
  refine PySem.W.methodCall_KW (pl := pl X.env) (thn (ho.run pins s σ H _ I ⟨ad, S, sl, R, L, run_bd h⟩) fun u s1 ⟨xv, H1, I1, rx, ad1, S1, w1, l1, R1, r1, h1⟩ => ?_) (ht _)
  split at h1
  · rename_i hcl
    obtain ⟨a, dx, vs, rfl, ea⟩ := clsOf_slo R1 r1 hcl
    obtain rfl : u = Value.ref a := rx
    refine SlX.getmethsl_ok I1 ea cl hm ?_
    refine PySem.W.callWith_K (first := [.ref a]) (h₀ := X.base) I.ok.mod.kin hm.kp (thn (ha.run pos pins s1 σ H1 _ I1 ⟨ad1, S1, sl, R1, L.mono l1, runA_bd h1⟩) fun us s2 ⟨vs2, H2, I2, r, ad2, S2, ws, l2, R2, r2, h2⟩ => ⟨I2.kIn, ?_⟩) (he _) (hpl _)
    exact run_fnM (us := .ref a :: us) (vs := .ref a :: vs2) g' hc (F.mono hj) tk I2 (.cons rfl r) ⟨ad2, S2, w1 :: ws, R2, .cons (r1.mono l2) r2, h2⟩
  · exact h1.elim
theorem e_methS0 {nm : Str} {pl : Env → Sem Bool} {j : Nat} (cc : Nat) (hc : c = true) (ho : SE m T k c t sc N ow o fo) (cl : SlX.SCls m.K (T.cls cc)) (hm : Meth m.K (T.cls cc) nm f) (F : FnM m T j f n g1) (hj : j ≤ k := by decide)
    (ht : ∀ env, eval (.Call (.Attribute o nm apos) [] [] pos) env = (do
      let ov ← eval o env
      standAt apos.atName
      let (f, first) ← holding [ov] (getMethod ov nm (pl env))
      callWith pos f first (backTo pos (starEach [] env)) (backToKw pos (keywordEach [] env))) := by intro _; rfl) :
    SE m T k c t sc N ow (.Call (.Attribute o nm apos) [] [] pos) (fun s => methM true cc (fo s) (ret []) g1) := fun X g Wx tk => by
  have ho := ho X g Wx tk
  have g' := g
  obtain ⟨rfl, _⟩ := g
  refine ⟨fun pins s σ H Q I h => ?_⟩
  obtain ⟨ad, S, sl, R, L, h⟩ := h
  refine PySem.W.methodCall_KW (pl := pl X.env) (thn (ho.run pins s σ H _ I ⟨ad, S, sl, R, L, run_bd h⟩) fun u s1 ⟨xv, H1, I1, rx, ad1, S1, w1, l1, R1, r1, h1⟩ => ?_) (ht _)
  split at h1
  · rename_i hcl
    obtain ⟨a, dx, vs, rfl, ea⟩ := clsOf_slo R1 r1 hcl
    obtain rfl : u = Value.ref a := rx
    refine SlX.getmethsl_ok I1 ea cl hm ?_
    exact PySem.W.callWith_K0 (first := [.ref a]) I1.kIn hm.kp (run_fnM (us := [.ref a]) (vs := [.ref a]) g' hc (F.mono hj) tk I1 (.cons rfl .nil) ⟨ad1, S1, [w1], R1, .cons r1 .nil, h1⟩)
  · exact h1.elim
end
end RP

/-! RpI: fields, slots, properties. -/
namespace RP
open PySem L2
/-! ### fields by their places -/
theorem lookup_zip {x : Str} {v : V} : ∀ {fl : List Str} {vs : List V} {j : Nat}, fl.Nodup → fl[j]? = some x → vs[j]? = some v → (fl.zip vs).lookup x = some v
  | [], _, _, _, e, _ => by simp at e
  | _ :: _, [], _, _, _, e => by simp at e
  | f :: fl, u :: vs, 0, nd, e, q => by
    simp at e q
    subst e q
    rw [List.zip_cons_cons, List.lookup_cons_self]
  | f :: fl, u :: vs, j + 1, nd, e, q => by
    have e' : fl[j]? = some x := by simpa using e
    have hne : (x == f) = false := by
      rw [beq_eq_false_iff_ne]
      intro z
      subst z
      exact (List.nodup_cons.mp nd).1 (List.mem_of_getElem? e')
    rw [List.zip_cons_cons, List.lookup_cons, hne]
    exact lookup_zip (List.nodup_cons.mp nd).2 e' (by simpa using q)
theorem putF_zip_set {x : Str} {y : V} : ∀ {fl : List Str} {vs : List V} {j : Nat}, fl.Nodup → fl[j]? = some x → j < vs.length → putF x y (fl.zip vs) = fl.zip (vs.set j y)
  | [], _, _, _, e, _ => by simp at e
  | _ :: _, [], _, _, _, h => by simp at h
  | f :: fl, u :: vs, 0, nd, e, h => by
    simp at e
    subst e
    simp [putF]
  | f :: fl, u :: vs, j + 1, nd, e, h => by
    have e' : fl[j]? = some x := by simpa using e
    have hne : ¬ f = x := fun z => (List.nodup_cons.mp nd).1 (z ▸ List.mem_of_getElem? e')
    rw [List.zip_cons_cons]
    show (if f = x then _ else _) = _
    rw [if_neg hne, putF_zip_set (List.nodup_cons.mp nd).2 e' (by simpa using h)]
    rfl
theorem putF_zip_new {x : Str} {y : V} : ∀ {fl : List Str} {vs : List V}, fl.Nodup → fl[vs.length]? = some x → putF x y (fl.zip vs) = fl.zip (vs ++ [y])
  | [], _, _, e => by simp at e
  | f :: fl, [], nd, e => by
    simp at e
    subst e
    simp [putF]
  | f :: fl, u :: vs, nd, e => by
    have e' : fl[vs.length]? = some x := by simpa using e
    have hne : ¬ f = x := fun z => (List.nodup_cons.mp nd).1 (z ▸ List.mem_of_getElem? e')
    rw [List.zip_cons_cons]
    show (if f = x then _ else _) = _
    rw [if_neg hne, putF_zip_new (List.nodup_cons.mp nd).2 e']
    rfl
/-- a field is stored at its place -/
def putAt (j : Nat) (w : W) (fs : List W) : Option (List W) := if j < fs.length then some (fs.set j w) else if j = fs.length then some (fs ++ [w]) else none
/-- o.f of an instance of class cc (sl: with slots), f in place j -/
def fldM (sl : Bool) (cc j : Nat) (w : W) : M W := fun S => match w with
  | .ref i => match S[i]? with
    | some (.ins c fs) => if sl = false ∧ c = cc then (match fs[j]? with | some v => .ok v S | none => .bad) else .bad
    | some (.slo c fs) => if sl = true ∧ c = cc then (match fs[j]? with | some v => .ok v S | none => .bad) else .bad
    | _ => .bad
  | _ => .bad
def setFldM (sl : Bool) (cc j : Nat) (w v : W) : M Unit := fun S => match w with
  | .ref i => match S[i]? with
    | some (.ins c fs) => if sl = false ∧ c = cc then (match putAt j v fs with | some fs' => .ok () (S.set i (.ins c fs')) | none => .bad) else .bad
    | some (.slo c fs) => if sl = true ∧ c = cc then (match putAt j v fs with | some fs' => .ok () (S.set i (.slo c fs')) | none => .bad) else .bad
    | _ => .bad
  | _ => .bad
/-- what is said of a class with a dict, of one with slots, and of a field -/
structure FldOk (m : Mo) (T : Tab) (cc j : Nat) (f : Str) : Prop where
  cl : Cls m.K (T.cls cc)
  no : NoAttr m.K (T.cls cc) f
  at_ : (T.fl cc)[j]? = some f
  nd : (T.fl cc).Nodup
  few : (T.fl cc).length < 900
structure SltOk (m : Mo) (T : Tab) (cc j : Nat) (f : Str) : Prop where
  cl : SlX.SCls m.K (T.cls cc)
  sl : ∃ p, SlX.Slot1 m.K (T.cls cc) f p j
section
variable {m : Mo} {T : Tab} {k : Nat} {c t : Bool} {sc : Scope} {N ow : List Str} {e o : Expr} {fo fe : Slots → M W} {pos p apos : Pos} {f : Str} {cc j : Nat}
theorem e_fld (F : FldOk m T cc j f) (ho : SE m T k c t sc N ow o fo) (hb : ∀ env, attributeBase o f env (eval o env) = eval o env := by intro _; rfl) : SE m T k c t sc N ow (.Attribute o f pos) (fun s => bd (fo s) (fldM false cc j)) := fun X g Wx tk => by
  have ho := ho X g Wx tk
  obtain ⟨rfl, _⟩ := g
  refine (pe_fld ho (hb _)).imp fun σ H Q h => ?_
  obtain ⟨ad, S, sl, R, L, h⟩ := h
  refine ⟨ad, S, sl, R, L, run_imp (run_bd h) ?_⟩
  rintro v H1 ⟨ad1, S1, w1, l1, R1, r1, h1⟩
  unfold fldM at h1
  split at h1
  · split at h1
    · rename_i hs
      split at h1
      · rename_i hcc
        cases r1 with
        | ref e1 =>
        obtain ⟨dx, vs, q1, q2, q3⟩ := R1.ob _ _ _ e1 hs
        split at h1
        · rename_i hv
          obtain ⟨v', hv', rv⟩ := q3.get hv
          rw [hcc.2] at q1
          exact ⟨_, _, dx, _, v', rfl, q1, F.cl, F.no, lookup_zip F.nd F.at_ hv', run_ok R1 rv h1⟩
        · exact h1.elim
      · exact h1.elim
    · split at h1
      · rename_i hcc; cases hcc.1
      · exact h1.elim
    · exact h1.elim
  · exact h1.elim
theorem e_slt (F : SltOk m T cc j f) (ho : SE m T k c t sc N ow o fo) (hb : ∀ env, attributeBase o f env (eval o env) = eval o env := by intro _; rfl) : SE m T k c t sc N ow (.Attribute o f pos) (fun s => bd (fo s) (fldM true cc j)) := fun X g Wx tk => by
  have ho := ho X g Wx tk
  obtain ⟨rfl, _⟩ := g
  obtain ⟨p, sp⟩ := F.sl
  refine (SlX.pe_sl ho (hb _)).imp fun σ H Q h => ?_
  obtain ⟨ad, S, sl, R, L, h⟩ := h
  refine ⟨ad, S, sl, R, L, run_imp (run_bd h) ?_⟩
  rintro v H1 ⟨ad1, S1, w1, l1, R1, r1, h1⟩
  unfold fldM at h1
  split at h1
  · split at h1
    · split at h1
      · rename_i hcc; cases hcc.1
      · exact h1.elim
    · rename_i hs
      split at h1
      · rename_i hcc
        cases r1 with
        | ref e1 =>
        obtain ⟨dx, vs, q1, q2, _, q3⟩ := R1.ob _ _ _ e1 hs
        split at h1
        · rename_i hv
          obtain ⟨v', hv', rv⟩ := q3.get hv
          rw [hcc.2] at q1
          exact ⟨_, _, dx, p, _, j, v', rfl, q1, F.cl, sp, by rw [List.getElem?_map, hv']; rfl, run_ok R1 rv h1⟩
        · exact h1.elim
      · exact h1.elim
    · exact h1.elim
  · exact h1.elim
theorem put_ins {K : PySem.W.Frag} {ad : List Addr} {H : Hp} {ws ws' : List W} {vs : List V} {w : W} {v : V} (F : FldOk m T cc j f) (r : RelWs K ad H ws vs) (rv : RelW K ad H w v) (hl : ws.length ≤ (T.fl cc).length) (e : putAt j w ws = some ws') :
    ∃ vs', putF f v ((T.fl cc).zip vs) = (T.fl cc).zip vs' ∧ ws'.length ≤ (T.fl cc).length ∧ RelWs K ad H ws' vs' := by
  unfold putAt at e
  split at e
  · rename_i h
    cases e
    exact ⟨vs.set j v, putF_zip_set F.nd F.at_ (by rw [← r.length]; exact h), by simpa using hl, r.set rv j⟩
  · split at e
    · rename_i h
      cases e
      refine ⟨vs ++ [v], putF_zip_new F.nd (by rw [← r.length, ← h]; exact F.at_), ?_, r.append (.cons rv .nil)⟩
      have := (List.getElem?_eq_some_iff.mp F.at_).1
      rw [List.length_append, List.length_singleton, ← h]
      omega
    · cases e
theorem putS_map {vs : List V} {v : V} {ws ws' : List W} {w : W} {K : PySem.W.Frag} {ad : List Addr} {H : Hp} (r : RelWs K ad H ws vs) (rv : RelW K ad H w v) (e : putAt j w ws = some ws') : ∃ vs', SlX.putS j v (vs.map some) = vs'.map some ∧ RelWs K ad H ws' vs' := by
  unfold putAt at e
  split at e
  · rename_i h
    cases e
    refine ⟨vs.set j v, ?_, r.set rv j⟩
    unfold SlX.putS
    have : j + 1 - (vs.map some).length = 0 := by rw [List.length_map, ← r.length]; omega
    rw [this]
    simp
  · split at e
    · rename_i h
      cases e
      refine ⟨vs ++ [v], ?_, r.append (.cons rv .nil)⟩
      unfold SlX.putS
      have : j + 1 - (vs.map some).length = 1 := by rw [List.length_map, ← r.length]; omega
      rw [this, List.set_append_right _ _ (by rw [List.length_map, ← r.length]; omega)]
      have : j - (vs.map some).length = 0 := by rw [List.length_map, ← r.length]; omega
      rw [this]
      simp
    · cases e
/-- o.f = e -/
theorem s_fld (F : FldOk m T cc j f) (ho : SE m T k c t sc N ow o fo) (he : SE m T k c t sc N ow e fe) (hs : ∀ env l, swapsWith e (some (.Attribute o f apos)) l env = pure false := by intro _ _; rfl) :
    SS m T k c t sc N ow (.Assign [.Attribute o f apos] e pos) (fun s => exS s (fe s) fun v => exS s (fo s) fun w => asgM (bd (setFldM false cc j w v) fun _ => ret s)) := fun X g Wx tk => by
  have ho := ho X g Wx tk
  have he := he X g Wx tk
  obtain ⟨rfl, _⟩ := g
  refine (ps_fld ho he (hs _ _)).imp fun D σ H h => ?_
  obtain ⟨ad, S, sl, R, L, h⟩ := h
  refine ⟨ad, S, sl, R, L, run_imp (run_exS L h) ?_⟩
  rintro v H1 ⟨ad1, S1, w1, l1, R1, r1, h1⟩
  refine ⟨ad1, S1, sl, R1, L.mono l1, run_imp (run_exS (L.mono l1) h1) ?_⟩
  rintro u H2 ⟨ad2, S2, w2, l2, R2, r2, h2⟩
  have h2 := runS_asg h2
  unfold bd setFldM at h2
  cases w2 with
  | ref i =>
    cases hs : S2[i]? with
    | none => simp only [hs] at h2; exact h2.elim
    | some ob =>
      cases ob with
      | ins c fs =>
        simp only [hs] at h2
        by_cases hcc : c = cc
        · subst hcc
          simp only [true_and, if_true] at h2
          cases hp : putAt j w1 fs with
          | none => simp only [hp] at h2; exact h2.elim
          | some fs' =>
            simp only [hp] at h2
            cases r2 with
            | ref e1 =>
            obtain ⟨dx, vs, q1, q2, q3⟩ := R2.ob _ _ _ e1 hs
            obtain ⟨vs', a1, a2, a3⟩ := put_ins F q3 (r1.mono l2) q2 hp
            refine ⟨_, _, dx, _, rfl, q1, F.cl, F.no, ?_, ?_⟩
            · have := F.few
              rw [List.length_zip, ← q3.length]
              omega
            · rw [a1]
              have b5 := But.upd (u := .ins (T.cls c) dx ((T.fl c).zip vs')) q1 trivial
              have l5 := b5.le (K := X.K) (fun o u z => by rw [q1] at z; cases z) (List.mem_of_getElem? e1) (R2.keen e1)
              exact h2 _ _ _ l5 (R2.write e1 b5 (fun o u z => by rw [q1] at z; cases z) ⟨dx, vs', upd_same, a2, a3.mono l5⟩) (((L.mono l1).mono l2).mono l5)
        · simp only [hcc, and_false, if_false] at h2; exact h2.elim
      | _ => simp only [hs] at h2; first | exact h2.elim | (simp at h2; exact h2.elim)
  | _ => exact h2.elim
/-- .. of an instance with slots -/
theorem s_slt (F : SltOk m T cc j f) (ho : SE m T k c t sc N ow o fo) (he : SE m T k c t sc N ow e fe) (hs : ∀ env l, swapsWith e (some (.Attribute o f apos)) l env = pure false := by intro _ _; rfl) :
    SS m T k c t sc N ow (.Assign [.Attribute o f apos] e pos) (fun s => exS s (fe s) fun v => exS s (fo s) fun w => asgM (bd (setFldM true cc j w v) fun _ => ret s)) := fun X g Wx tk => by
  have ho := ho X g Wx tk
  have he := he X g Wx tk
  obtain ⟨rfl, _⟩ := g
  obtain ⟨p, sp⟩ := F.sl
  refine (SlX.ps_sl ho he (hs _ _)).imp fun D σ H h => ?_
  obtain ⟨ad, S, sl, R, L, h⟩ := h
  refine ⟨ad, S, sl, R, L, run_imp (run_exS L h) ?_⟩
  rintro v H1 ⟨ad1, S1, w1, l1, R1, r1, h1⟩
  refine ⟨ad1, S1, sl, R1, L.mono l1, run_imp (run_exS (L.mono l1) h1) ?_⟩
  rintro u H2 ⟨ad2, S2, w2, l2, R2, r2, h2⟩
  have h2 := runS_asg h2
  unfold bd setFldM at h2
  cases w2 with
  | ref i =>
    cases hs : S2[i]? with
    | none => simp only [hs] at h2; exact h2.elim
    | some ob =>
      cases ob with
      | slo c fs =>
        simp only [hs] at h2
        by_cases hcc : c = cc
        · subst hcc
          simp only [true_and, if_true] at h2
          cases hp : putAt j w1 fs with
          | none => simp only [hp] at h2; exact h2.elim
          | some fs' =>
            simp only [hp] at h2
            cases r2 with
            | @ref _ a e1 =>
            obtain ⟨dx, vs, q1, q2, q4, q3⟩ := R2.ob _ _ _ e1 hs
            obtain ⟨vs', a1, a3⟩ := putS_map q3 (r1.mono l2) hp
            refine ⟨_, _, dx, p, _, j, rfl, q1, F.cl, sp, ?_⟩
            rw [a1]
            have hfz : ∀ o u, H2 a ≠ some (.frz o (.tup u)) := fun o u z => by
              rcases q1 with ⟨q, _⟩ | ⟨q, _⟩ <;> (rw [q] at z; cases z)
            have ndx : ∀ b u, H2 b = some u → (Keen u ∨ ∃ ws, u = .tup ws) → b ≠ dx := fun b u hb hk z => by
              subst z
              rcases q4 with q | q
              · rw [q] at hb; cases hb
                rcases hk with hk | ⟨_, hk⟩
                · exact hk
                · cases hk
              · rw [q] at hb; cases hb
                rcases hk with hk | ⟨_, hk⟩
                · exact hk
                · cases hk
            have nta : ∀ ws, H2 a ≠ some (.tup ws) := fun ws z => by
              rcases q1 with ⟨q, _⟩ | ⟨q, _⟩ <;> (rw [q] at z; cases z)
            have b5 : But a H2 (SlX.slH H2 a (T.cls c) dx (vs'.map some)) := by
              refine ⟨fun b o n ko e => ?_, fun b ws e => ?_, fun b n e => ?_, fun b x n e => ?_, fun b e => ?_⟩
              · rw [SlX.slH_ne n (ndx b o e (.inl ko))]; exact e
              · rw [SlX.slH_ne (fun z : b = a => nta ws (by rw [← z]; exact e)) (ndx b _ e (.inr ⟨ws, rfl⟩))]; exact e
              · unfold SlX.slH
                rw [upd_ne n]
                by_cases z : b = dx
                · rw [z, upd_same]
                · rw [upd_ne z]; exact e
              · unfold SlX.slH
                rw [upd_ne n]
                by_cases z : b = dx
                · rw [z, upd_same]; exact .inr rfl
                · rw [upd_ne z]; exact .inl e
              · unfold SlX.slH at e
                by_cases z : b = a
                · rw [z, upd_same] at e; cases e
                · rw [upd_ne z] at e
                  by_cases z2 : b = dx
                  · rw [z2, upd_same] at e; cases e
                  · rw [upd_ne z2] at e; exact e
            have l5 := b5.le (K := X.K) hfz (List.mem_of_getElem? e1) (R2.keen e1)
            refine h2 _ _ _ l5 (R2.write e1 b5 hfz ⟨dx, vs', SlX.slH_slt q2, q2, .inr ?_, a3.mono l5⟩) (((L.mono l1).mono l2).mono l5)
            unfold SlX.slH
            rw [upd_ne q2, upd_same]
        · simp only [hcc, and_false, if_false] at h2; exact h2.elim
      | _ => simp only [hs] at h2; first | exact h2.elim | (simp at h2; exact h2.elim)
  | _ => exact h2.elim
end
end RP

/-! RpJ: properties, own == and len, isinstance, built-in calls and methods. -/
namespace RP
open PySem L2
theorem FnM.raw {m : Mo} {T : Tab} {k : Nat} {f : Addr} {n : Nat} {g : List W → M W} (F : FnM m T k f n g) : FnR m.P m.w m.K m.mg m.base (CX m.P m.w) k f (spM T m.K g) := by
  obtain ⟨fd, ps, _, G, b⟩ := F.ok
  have h := FnOk.raw G b (.nil : Vals [] [])
  intro A outer s H us vs Q E hr e0 r hs
  exact h A outer s H us vs Q E hr e0 r (show spM T m.K g (vs ++ []) H Q E by rw [List.append_nil]; exact hs)
/-- it raises nothing -/
def Calm (g : List W → M W) : Prop := ∀ ws S x S', g ws S ≠ .ex x S'
section
variable {m : Mo} {T : Tab} {k : Nat} {c t : Bool} {sc : Scope} {N ow : List Str} {a b e o : Expr} {es : List Expr} {fo fe fa fb : Slots → M W} {fs : Slots → M (List W)} {pos p apos : Pos} {f : Str} {cc j n : Nat} {g1 : List W → M W} {ga : Addr}
theorem run_calm {K : PySem.W.Frag} {ad : List Addr} {H : Hp} {ws : List W} {S : Sto} {Q : VK} {E E' : XK} (hg : Calm g1) (h : run T K ad H (g1 ws S) Q E) : run T K ad H (g1 ws S) Q E' := by
  cases q : g1 ws S with
  | ok w S1 => rw [q] at h; exact h
  | ex x S1 => exact (hg _ _ _ _ q).elim
  | bad => rw [q] at h; exact h
/-- the property f of a class with slots -/
structure PropS (m : Mo) (T : Tab) (cc : Nat) (f : Str) (ga : Addr) : Prop where
  cl : SlX.SCls m.K (T.cls cc)
  pr : ∃ p, PySem.W.findIn m.K (.ref (T.cls cc)) f = some (some (.ref p)) ∧ PySem.W.specialIn m.K (.ref p) "__get__" = some (some (.builtin "property.__get__")) ∧ PySem.W.takesIn m.K (.ref p) = some true ∧ ∃ rest, PySem.W.recIn m.K p "property" = some (.ref ga :: rest)
def propM (sl : Bool) (cc : Nat) (g : List W → M W) (w : W) : M W := fun S => if clsOf S w = some (sl, cc) then g [w] S else .bad
theorem e_propS (hc : c = true) (P : PropS m T cc f ga) (F : FnM m T j ga n g1) (hg : Calm g1) (ho : SE m T k c t sc N ow o fo) (hj : j + 1 ≤ k := by decide) (hb : ∀ env, attributeBase o f env (eval o env) = eval o env := by intro _; rfl) :
    SE m T k c t sc N ow (.Attribute o f pos) (fun s => bd (fo s) (propM true cc g1)) := fun X g Wx tk => by
  have ho := ho X g Wx tk
  have room := (g.room hc).mono hj
  obtain ⟨rfl, _⟩ := g
  obtain ⟨p, p1, p2, p3, p4⟩ := P.pr
  refine ⟨fun pins s σ H Q I h => ?_⟩
  obtain ⟨ad, S, sl, R, L, h⟩ := h
  refine attr_of (hb _) (thn (ho.run pins s σ H _ I ⟨ad, S, sl, R, L, run_bd h⟩) fun u s1 ⟨xv, H1, I1, rx, ad1, S1, w1, l1, R1, r1, h1⟩ => ?_)
  unfold propM at h1
  split at h1
  · rename_i hcl
    obtain ⟨a, dx, vs, rfl, ea⟩ := clsOf_slo R1 r1 hcl
    obtain rfl : u = Value.ref a := rx
    refine SlX.getprop_sl (E := fun _ _ _ => False) I1 ea P.cl p1 p2 p3 p4 F.raw room (fun H s e s' z => ?_) ⟨ad1, S1, [w1], R1, .cons r1 .nil, run_calm hg h1⟩
    obtain ⟨_, _, _, _, _, _, _, _, _, _, _, _, z⟩ := z
    exact z
  · exact h1.elim
/-- .. of a class with a dict -/
structure PropI (m : Mo) (T : Tab) (cc : Nat) (f : Str) (ga : Addr) : Prop where
  cl : Cls m.K (T.cls cc)
  pr : ∃ p, PropOf m.K (T.cls cc) f p ga
theorem e_propI (hc : c = true) (P : PropI m T cc f ga) (F : FnM m T j ga n g1) (hg : Calm g1) (ho : SE m T k c t sc N ow o fo) (hj : j + 1 ≤ k := by decide) (hb : ∀ env, attributeBase o f env (eval o env) = eval o env := by intro _; rfl) :
    SE m T k c t sc N ow (.Attribute o f pos) (fun s => bd (fo s) (propM false cc g1)) := fun X g Wx tk => by
  have ho := ho X g Wx tk
  have room := (g.room hc).mono hj
  obtain ⟨rfl, _⟩ := g
  obtain ⟨p, pp⟩ := P.pr
  obtain ⟨fd, ps, _, G, bi⟩ := F.ok
  refine ⟨fun pins s σ H Q I h => ?_⟩
  obtain ⟨ad, S, sl, R, L, h⟩ := h
  refine attr_of (hb _) (thn (ho.run pins s σ H _ I ⟨ad, S, sl, R, L, run_bd h⟩) fun u s1 ⟨xv, H1, I1, rx, ad1, S1, w1, l1, R1, r1, h1⟩ => ?_)
  unfold propM at h1
  split at h1
  · rename_i hcl
    obtain ⟨a, dx, vs, rfl, ea⟩ := clsOf_ins R1 r1 hcl
    obtain rfl : u = Value.ref a := rx
    refine getprop_ok (E := fun _ _ _ => False) I1 ea P.cl pp G room bi .nil (fun pins σ H s e s' _ z => ?_) ⟨ad1, S1, [w1], R1, .cons r1 .nil, run_calm hg h1⟩
    obtain ⟨_, _, _, _, _, _, _, _, _, _, _, _, z⟩ := z
    exact z
  · exact h1.elim
/-! ### len -/
/-- len of a text, a list, a tuple, a dict -/
def lenM (ws : List W) : M W := fun S => match ws with
  | [.str x] => if x.length ≤ sizeLine then .ok (.int x.length) S else .bad
  | [.tup xs] => .ok (.int xs.length) S
  | [.ref i] => match seqOf S i with
    | some xs => .ok (.int xs.length) S
    | none => .bad
  | _ => .bad
theorem n_len : SN m T k c t sc N ow (.builtin "len") lenM := fun X g E pins s σ H xs us Q I r ⟨ad, S, ws, R, rw', h⟩ => by
  obtain ⟨rfl, _⟩ := g
  unfold lenM at h
  split at h
  · split at h
    · cases rw' with
      | cons r1 rr =>
      cases rr
      cases r1
      exact call_len pins s σ H _ us Q I r ⟨_, _, rfl, ⟨by assumption, rfl⟩, run_ok R (.int _) h⟩
    · exact h.elim
  · cases rw' with
    | cons r1 rr =>
    cases rr
    cases r1 with
    | tup s1 r2 => exact call_len pins s σ H _ us Q I r ⟨_, _, rfl, .inr ⟨_, s1, rfl⟩, by rw [← r2.length]; exact run_ok R (.int _) h⟩
  · cases rw' with
    | cons r1 rr =>
    cases rr
    cases r1 with
    | ref e1 =>
    split at h
    · rename_i hs
      obtain ⟨vs, q, r2⟩ := R.seq e1 hs
      exact call_len pins s σ H _ us Q I r ⟨_, _, rfl, .inl ⟨_, q, rfl⟩, by rw [← r2.length]; exact run_ok R (.int _) h⟩
    · exact h.elim
  · exact h.elim
/-- a built-in function by its name -/
theorem e_blt {x : Str} {id : String} {gg : List W → M W} (hn : SN m T k c t sc N ow (.builtin id) gg) (hm : m.mg x = none) (ha : SA m T k c t sc N ow (e :: es) fs) (hv : bootBuiltins x = some (.builtin id)) (hg : sc.names.lookup x = some .globalImplicit := by rfl) (hx : x ≠ "__name__" := by decide) (hdb : (x == ("__debug__" : Str)) = false := by decide)
    (he : ∀ env, starEach (e :: es) env = (false, eval e env) :: starEach es env := by intro _; rfl) (hpl : ∀ env, (backTo pos (starEach es env)).any (·.1) = false := by intro _; rfl) :
    SE m T k c t sc N ow (.Call (.Name x p) (e :: es) [] pos) (fun s => bd (fs s) gg) := fun X g Wx tk => by
  have em : X.mg = m.mg := by rw [← g.mo]; rfl
  refine ⟨fun pins s σ H Q I h => (pe_callB (hn X g fun c d H' => Wx c d σ H') (gl_of g hg) (by rw [em]; exact hm) hv (ha X g Wx tk) hx hdb (he _) (hpl _)).run pins s σ H Q I ?_⟩
  obtain ⟨ad, S, sl, R, L, h⟩ := h
  refine ⟨ad, S, sl, R, L, runA_imp (runA_bd h) ?_⟩
  rintro vs H1 ⟨ad1, S1, ws, l1, R1, r1, h1⟩
  exact ⟨ad1, S1, ws, R1, r1, h1⟩
theorem e_bty {x : Str} {id : String} {gg : List W → M W} (hn : SN m T k c t sc N ow (.type id) gg) (hm : m.mg x = none) (ha : SA m T k c t sc N ow (e :: es) fs) (hv : bootBuiltins x = some (.type id)) (hg : sc.names.lookup x = some .globalImplicit := by rfl) (hx : x ≠ "__name__" := by decide) (hdb : (x == ("__debug__" : Str)) = false := by decide)
    (he : ∀ env, starEach (e :: es) env = (false, eval e env) :: starEach es env := by intro _; rfl) (hpl : ∀ env, (backTo pos (starEach es env)).any (·.1) = false := by intro _; rfl) :
    SE m T k c t sc N ow (.Call (.Name x p) (e :: es) [] pos) (fun s => bd (fs s) gg) := fun X g Wx tk => by
  have em : X.mg = m.mg := by rw [← g.mo]; rfl
  refine ⟨fun pins s σ H Q I h => (pe_callTy (hn X g fun c d H' => Wx c d σ H') (gl_of g hg) (by rw [em]; exact hm) hv (ha X g Wx tk) hx hdb (he _) (hpl _)).run pins s σ H Q I ?_⟩
  obtain ⟨ad, S, sl, R, L, h⟩ := h
  refine ⟨ad, S, sl, R, L, runA_imp (runA_bd h) ?_⟩
  rintro vs H1 ⟨ad1, S1, ws, l1, R1, r1, h1⟩
  exact ⟨ad1, S1, ws, R1, r1, h1⟩
/-- a built-in type's name as a value -/
theorem e_ty {x : Str} {id : String} (hm : m.mg x = none) (hv : bootBuiltins x = some (.type id)) (hg : sc.names.lookup x = some .globalImplicit := by rfl) (hx : x ≠ "__name__" := by decide) (hdb : (x == ("__debug__" : Str)) = false := by decide) :
    SE m T k c t sc N ow (.Name x pos) (fun _ => ret (.ty id)) := e_const (v := .ty id) (fun X g => by
  have em : X.mg = m.mg := by rw [← g.mo]; rfl
  exact pe_bltn (gl_of g hg) (by rw [em]; exact hm) hv rfl hx hdb) fun _ _ => .ty id
/-! ### int, all -/
def intM (ws : List W) : M W := fun S => match ws with
  | [.int i] => .ok (.int i) S
  | [.bl b] => .ok (.int (if b then 1 else 0)) S
  | _ => .bad
theorem n_int : SN m T k c t sc N ow (.type "int") intM := fun X g E pins s σ H xs us Q I r ⟨ad, S, ws, R, rw', h⟩ => by
  obtain ⟨rfl, _⟩ := g
  unfold intM at h
  split at h
  · cases rw' with
    | cons r1 rr =>
    cases rr
    cases r1
    exact call_int1 pins s σ H _ us Q I r (.inl ⟨_, rfl, run_ok R (.int _) h⟩)
  · cases rw' with
    | cons r1 rr =>
    cases rr
    cases r1
    exact call_int1 pins s σ H _ us Q I r (.inr ⟨_, rfl, run_ok R (.int _) h⟩)
  · exact h.elim
/-- the bools of a list -/
def bools : List W → Option (List Bool)
  | [] => some []
  | .bl b :: r => (bools r).map (b :: ·)
  | _ => none
theorem bools_rel {K : PySem.W.Frag} {ad : List Addr} {H : Hp} : ∀ {ws : List W} {vs : List V} {bs : List Bool}, bools ws = some bs → RelWs K ad H ws vs → vs = bs.map V.bl
  | [], _, _, e, .nil => by cases e; rfl
  | w :: ws, _, bs, e, .cons r rr => by
    cases w <;> simp only [bools] at e <;> try cases e
    cases r
    cases q : bools ws with
    | none => rw [q] at e; cases e
    | some cs =>
      rw [q] at e
      cases e
      rw [bools_rel q rr]
      rfl
def allM (ws : List W) : M W := fun S => match ws with
  | [.ref i] => match seqOf S i with
    | some xs => match bools xs with
      | some bs => .ok (.bl (bs.all id)) S
      | none => .bad
    | none => .bad
  | _ => .bad
theorem n_all (hc : c = true) : SN m T k c t sc N ow (.builtin "all") allM := fun X g E pins s σ H xs us Q I r ⟨ad, S, ws, R, rw', h⟩ => by
  have calm := g.calm hc
  obtain ⟨rfl, _⟩ := g
  unfold allM at h
  split at h
  · cases rw' with
    | cons r1 rr =>
    cases rr
    cases r1 with
    | ref e1 =>
    split at h
    · rename_i hs
      split at h
      · rename_i bs hb
        obtain ⟨vs, q, r2⟩ := R.seq e1 hs
        rw [bools_rel hb r2] at q
        exact cr_all calm pins s σ H _ us Q I r ⟨_, bs, rfl, q, run_ok R (.bl _) h⟩
      · exact h.elim
    · exact h.elim
  · exact h.elim
end
end RP

/-! RpK: isinstance, methods of built-in types, subscripts, slices. -/
namespace RP
open PySem L2
section
variable {m : Mo} {T : Tab} {k : Nat} {c t : Bool} {sc : Scope} {N ow : List Str} {a b e o : Expr} {es : List Expr} {fo fe fa fb f1 f2 : Slots → M W} {fs : Slots → M (List W)} {pos p apos : Pos} {f : Str} {cc j n : Nat}
/-- two ways for one expression -/
def altM (x y : M W) : M W := fun S => match x S with
  | .bad => y S
  | r => r
theorem e_alt (h1 : SE m T k c t sc N ow e f1) (h2 : SE m T k c t sc N ow e f2) : SE m T k c t sc N ow e (fun s => altM (f1 s) (f2 s)) := fun X g Wx tk => by
  refine ⟨fun pins s σ H Q I h => ?_⟩
  obtain ⟨ad, S, sl, R, L, h⟩ := h
  unfold altM at h
  cases q : f1 sl S with
  | bad => simp only [q] at h; exact (h2 X g Wx tk).run pins s σ H Q I ⟨ad, S, sl, R, L, h⟩
  | ok w S1 => simp only [q] at h; exact (h1 X g Wx tk).run pins s σ H Q I ⟨ad, S, sl, R, L, by rw [q]; exact h⟩
  | ex w S1 => simp only [q] at h; exact (h1 X g Wx tk).run pins s σ H Q I ⟨ad, S, sl, R, L, by rw [q]; exact h⟩
/-! ### isinstance -/
/-- the built-in type of a value -/
def tyN (S : Sto) : W → Option String
  | .non => some "NoneType"
  | .bl _ => some "bool"
  | .int _ => some "int"
  | .str _ => some "str"
  | .tup _ => some "tuple"
  | .ref i => match S[i]? with
    | some (.lst _) => some "list"
    | some (.scr _) => some "list"
    | some (.dct _) => some "dict"
    | _ => none
  | _ => none
theorem tyN_rel {K : PySem.W.Frag} {ad : List Addr} {H : Hp} {S : Sto} {w : W} {v : V} {n : String} (R : Rel T K ad H S) (r : RelW K ad H w v) (e : tyN S w = some n) : TyX K H v (.type n) := by
  cases r with
  | non => cases e; exact .base .non
  | bl b => cases e; exact .base (.bl b)
  | int b => cases e; exact .base (.int b)
  | str b => cases e; exact .base (.str b)
  | tup s r =>
    cases e
    rcases s with (s | ⟨o, s⟩) | ⟨o, its, n, s1, s2, _⟩
    · exact .base (.tup s)
    · exact .fTuple s
    · exact .kTuple s1 s2
  | ref e1 =>
    unfold tyN at e
    dsimp only at e
    split at e
    · rename_i h
      cases e
      obtain ⟨vs, h1, _⟩ := R.ob _ _ _ e1 h
      exact .base (.lst h1)
    · rename_i h
      cases e
      obtain ⟨o, h1⟩ := R.ob _ _ _ e1 h
      exact .base (.frz h1)
    · rename_i h
      cases e
      obtain ⟨vs, h1, _⟩ := R.ob _ _ _ e1 h
      exact .base (.dK h1)
    · cases e
  | adr a => cases e
  | ty n => cases e
def isiM (ws : List W) : M W := fun S => match ws with
  | [x, .ty b] => match tyN S x with
    | some a => match kitB a b with
      | some r => .ok (.bl r) S
      | none => .bad
    | none => .bad
  | _ => .bad
theorem n_isi : SN m T k c t sc N ow (.builtin "isinstance") isiM := fun X g E pins s σ H xs us Q I r ⟨ad, S, ws, R, rw', h⟩ => by
  obtain ⟨rfl, _⟩ := g
  unfold isiM at h
  split at h
  · rename_i x bn
    match xs, rw' with
    | [v, _], .cons r1 (.cons (.ty _) .nil) =>
      split at h
      · rename_i an ha
        split at h
        · rename_i rb hk
          exact call_isi pins s σ H _ us Q I r ⟨v, _, _, _, rb, rfl, .ty bn, tyN_rel R r1 ha, kit_ty hk, run_ok R (.bl _) h⟩
        · exact h.elim
      · exact h.elim
  · exact h.elim
/-- isinstance(x, C), x an instance of the class C itself, with slots -/
structure IsiS (m : Mo) (T : Tab) (cc : Nat) : Prop where
  cl : SlX.SCls m.K (T.cls cc)
  si : SlX.SIsi m.K (T.cls cc)
  kit : PySem.W.kitOne m.K (.ref (T.cls cc)) (.ref (T.cls cc)) = some true
def isiSM (cc : Nat) (A : Addr) (ws : List W) : M W := fun S => match ws with
  | [x, .adr b] => if b = A ∧ clsOf S x = some (true, cc) then .ok (.bl true) S else .bad
  | _ => .bad
theorem n_isiS (J : IsiS m T cc) : SN m T k c t sc N ow (.builtin "isinstance") (isiSM cc (T.cls cc)) := fun X g E pins s σ H xs us Q I r ⟨ad, S, ws, R, rw', h⟩ => by
  obtain ⟨rfl, _⟩ := g
  unfold isiSM at h
  split at h
  · rename_i x bn
    match xs, rw' with
    | [v, _], .cons r1 (.cons (.adr _) .nil) =>
      split at h
      · rename_i hc
        obtain ⟨rfl, hc⟩ := hc
        obtain ⟨a, dx, vs, rfl, q⟩ := clsOf_slo R r1 hc
        exact SlX.call_isiSl (.ref (T.cls cc)) pins s σ H _ us Q I r ⟨a, _, dx, _, _, true, rfl, rfl, fun w z => z, q, J.cl, J.si, J.kit, run_ok R (.bl _) h⟩
      · exact h.elim
  · exact h.elim
/-- a class of the text as a value -/
theorem e_cls {x : Str} {A : Addr} (hm : m.mg x = some (.ref A)) (hg : sc.names.lookup x = some .globalImplicit := by rfl) (hd : (x == ("__debug__" : Str)) = false := by decide) : SE m T k c t sc N ow (.Name x pos) (fun _ => ret (.adr A)) :=
  e_glob (v := .ref A) hm rfl (fun _ _ => .adr A) hg hd
/-! ### methods of built-in types -/
def rM (T : Tab) (K : PySem.W.Frag) (g : W → List W → M W) (E : XK) : V → List V → Hp → VK → Prop := fun x xs H Q => ∃ ad S w ws, Rel T K ad H S ∧ RelW K ad H w x ∧ RelWs K ad H ws xs ∧ run T K ad H (g w ws S) Q E
def SM (m : Mo) (T : Tab) (k : Nat) (c t : Bool) (sc : Scope) (N ow : List Str) (id : String) (g : W → List W → M W) : Prop := ∀ X, Good m k c t sc N ow X → ∀ E, MtR X id (rM T m.K g E)
def bmM (ty : String) (fo : M W) (fs : M (List W)) (g : W → List W → M W) : M W := bd fo fun w S => if tyN S w = some ty then bd fs (fun ws => g w ws) S else .bad
theorem tyN_tyV {K : PySem.W.Frag} {ad : List Addr} {H : Hp} {S : Sto} {w : W} {v : V} {n : String} (R : Rel T K ad H S) (r : RelW K ad H w v) (e : tyN S w = some n) (hn : n = "str" ∨ n = "list" ∨ n = "dict") : tyV K n v H := by
  have no : ∀ {s : String}, s ≠ "str" → s ≠ "list" → s ≠ "dict" → ¬ (some s = some n) := fun a b c z => by
    cases z
    rcases hn with h | h | h
    · exact a h
    · exact b h
    · exact c h
  cases r with
  | non => exact (no (by decide) (by decide) (by decide) e).elim
  | bl b => exact (no (by decide) (by decide) (by decide) e).elim
  | int b => exact (no (by decide) (by decide) (by decide) e).elim
  | str b => cases e; rfl
  | tup s r => exact (no (by decide) (by decide) (by decide) e).elim
  | ref e1 =>
    unfold tyN at e
    dsimp only at e
    split at e
    · rename_i h
      cases e
      obtain ⟨vs, h1, _⟩ := R.ob _ _ _ e1 h
      exact .inl ⟨rfl, _, SqL.of h1⟩
    · rename_i h
      cases e
      obtain ⟨o, h1⟩ := R.ob _ _ _ e1 h
      exact .inl ⟨rfl, _, .inl (.inr ⟨o, h1⟩)⟩
    · rename_i h
      cases e
      obtain ⟨vs, h1, _⟩ := R.ob _ _ _ e1 h
      exact .inr (.inr (.inl ⟨rfl, .inl ⟨_, h1⟩⟩))
    · cases e
  | adr a => cases e
  | ty n => cases e
theorem e_bm {ty id : String} {nm : Str} {g1 : W → List W → M W} (pa : PlainAttrs ty) (slot : Slot ty nm id) (hty : typeOf (.builtin id) = pure (.type "method_descriptor")) (hm : SM m T k c t sc N ow id g1) (ho : SE m T k c t sc N ow o fo) (ha : SA m T k c t sc N ow (e :: es) fs) (hn : ty = "str" ∨ ty = "list" ∨ ty = "dict" := by decide)
    (hbase : ∀ env, attributeBase o nm env (eval o env) = eval o env := by intro _; rfl)
    (hfew : ∀ env, ((backTo pos (starEach (e :: es) env)).all (fun x => !x.1) && (backToKw pos (keywordEach [] env)).all (fun x => x.1.isSome)
      && decide ((e :: es).length + ([] : List Keyword).length + (if ([] : List Keyword).isEmpty then 0 else 1) < 30)) = true := by intro _; rfl)
    (hline : (apos.endLine == pos.line) = true := by rfl) (hs : ∀ env, starEach (e :: es) env = (false, eval e env) :: starEach es env := by intro _; rfl) (hplain : ∀ env, (backTo pos (starEach es env)).any (·.1) = false := by intro _; rfl) :
    SE m T k c t sc N ow (.Call (.Attribute o nm apos) (e :: es) [] pos) (fun s => bmM ty (fo s) (fs s) g1) := fun X g Wx tk => by
  have ek : X.K = m.K := by rw [← g.mo]; rfl
  refine ⟨fun pins s σ H Q I h => (pe_bm pa slot hty (hm X g fun c d H' => Wx c d σ H') (ho X g Wx tk) (ha X g Wx tk) (hbase _) (hfew _) hline (hs _) (hplain _)).run pins s σ H Q I ?_⟩
  obtain ⟨ad, S, sl, R, L, h⟩ := h
  refine ⟨ad, S, sl, R, L, run_imp (run_bd h) ?_⟩
  rintro v H1 ⟨ad1, S1, w1, l1, R1, r1, h1⟩
  split at h1
  · rename_i ht
    refine ⟨by rw [ek]; exact tyN_tyV R1 r1 ht hn, ad1, S1, sl, R1, L.mono l1, runA_imp (runA_bd h1) ?_⟩
    rintro vs H2 ⟨ad2, S2, ws, l2, R2, r2, h2⟩
    exact ⟨ad2, S2, w1, ws, R2, r1.mono l2, r2, h2⟩
  · exact h1.elim
theorem e_bm0 {ty id : String} {nm : Str} {g1 : W → List W → M W} (pa : PlainAttrs ty) (slot : Slot ty nm id) (hty : typeOf (.builtin id) = pure (.type "method_descriptor")) (hm : SM m T k c t sc N ow id g1) (ho : SE m T k c t sc N ow o fo) (hn : ty = "str" ∨ ty = "list" ∨ ty = "dict" := by decide)
    (hbase : ∀ env, attributeBase o nm env (eval o env) = eval o env := by intro _; rfl) (hline : (apos.endLine == pos.line) = true := by rfl) :
    SE m T k c t sc N ow (.Call (.Attribute o nm apos) [] [] pos) (fun s => bmM ty (fo s) (ret []) g1) := fun X g Wx tk => by
  have ek : X.K = m.K := by rw [← g.mo]; rfl
  refine ⟨fun pins s σ H Q I h => (pe_bm0 pa slot hty (hm X g fun c d H' => Wx c d σ H') (ho X g Wx tk) (hbase _) hline).run pins s σ H Q I ?_⟩
  obtain ⟨ad, S, sl, R, L, h⟩ := h
  refine ⟨ad, S, sl, R, L, run_imp (run_bd h) ?_⟩
  rintro v H1 ⟨ad1, S1, w1, l1, R1, r1, h1⟩
  split at h1
  · rename_i ht
    exact ⟨by rw [ek]; exact tyN_tyV R1 r1 ht hn, ad1, S1, w1, [], R1, r1, .nil, h1⟩
  · exact h1.elim
/-- the texts of a list -/
def textsOf : List W → Option (List Str)
  | [] => some []
  | .str b :: r => (textsOf r).map (b :: ·)
  | _ => none
theorem textsOf_rel {K : PySem.W.Frag} {ad : List Addr} {H : Hp} : ∀ {ws : List W} {vs : List V} {bs : List Str}, textsOf ws = some bs → RelWs K ad H ws vs → vs = bs.map V.str
  | [], _, _, e, .nil => by cases e; rfl
  | w :: ws, _, bs, e, .cons r rr => by
    cases w <;> simp only [textsOf] at e <;> try cases e
    cases r
    cases q : textsOf ws with
    | none => rw [q] at e; cases e
    | some cs =>
      rw [q] at e
      cases e
      rw [textsOf_rel q rr]
      rfl
def joinM (w : W) (ws : List W) : M W := fun S => match w, ws with
  | .str a, [.ref i] => match seqOf S i with
    | some xs => match textsOf xs with
      | some ys => if (ys.map (·.length)).sum + ys.length * a.length ≤ 16777216 then .ok (.str (Txt.join a ys)) S else .bad
      | none => .bad
    | none => .bad
  | _, _ => .bad
theorem m_join : SM m T k c t sc N ow "str.join" joinM := fun X g E pins s σ H x xs v us Q I rx rs ⟨ad, S, w, ws, R, rw', rws, h⟩ => by
  obtain ⟨rfl, _⟩ := g
  unfold joinM at h
  split at h
  · rename_i a i
    cases rw'
    match xs, rws with
    | [_], .cons (.ref e1) .nil =>
      split at h
      · rename_i ws hs
        split at h
        · rename_i ys hy
          split at h
          · rename_i hz
            obtain ⟨vs, q, r2⟩ := R.seq e1 hs
            rw [textsOf_rel hy r2] at q
            exact mt_join pins s σ H _ _ v us Q I rx rs ⟨a, _, ys, rfl, rfl, .inl q, hz, run_ok R (.str _) h⟩
          · exact h.elim
        · exact h.elim
      · exact h.elim
  · exact h.elim
def appendM (w : W) (ws : List W) : M W := fun S => match w, ws with
  | .ref i, [y] => match S[i]? with
    | some (.lst xs) => if xs.length < sizeLine then .ok .non (S.set i (.lst (xs ++ [y]))) else .bad
    | _ => .bad
  | _, _ => .bad
/-- a list of the state is written -/
theorem run_wlst {K : PySem.W.Frag} {ad : List Addr} {H : Hp} {S : Sto} {Q : VK} {E : XK} {i : Nat} {a : Addr} {ws : List W} {us vs : List V} {w : W} {v : V} (R : Rel T K ad H S) (e : ad[i]? = some a) (q : H a = some (.lst us)) (r : RelWs K ad H ws vs) (rv : RelW K ad H w v)
    (h : run T K ad H (.ok w (S.set i (.lst ws))) Q E) : Q v (upd H a (.lst vs)) := by
  have b5 := But.upd (u := .lst vs) q trivial
  have hf : ∀ o u, H a ≠ some (.frz o (.tup u)) := fun o u z => by rw [q] at z; cases z
  have l5 := b5.le (K := K) hf (List.mem_of_getElem? e) (R.keen e)
  exact h _ _ _ l5 (R.write e b5 hf ⟨vs, upd_same, r.mono l5⟩) (rv.mono l5)
theorem m_append : SM m T k c t sc N ow "list.append" appendM := fun X g E pins s σ H x xs v us Q I rx rs ⟨ad, S, w, ws, R, rw', rws, h⟩ => by
  obtain ⟨rfl, _⟩ := g
  unfold appendM at h
  split at h
  · cases rw' with
    | ref e1 =>
    match xs, rws with
    | [_], .cons ry .nil =>
      split at h
      · rename_i ys hs
        split at h
        · rename_i hz
          obtain ⟨vs, q, r2⟩ := R.lst e1 hs
          exact mt_append pins s σ H _ _ v us Q I rx rs ⟨_, vs, _, rfl, rfl, q, by rw [← r2.length]; exact hz, run_wlst R e1 q (r2.append (.cons ry .nil)) .non h⟩
        · exact h.elim
      · exact h.elim
  · exact h.elim
/-- s.index(t), there -/
def indexM (w : W) (ws : List W) : M W := fun S => match w, ws with
  | .str a, [.str b] => match Txt.index0 a b with
    | some k => .ok (.int k) S
    | none => .bad
  | _, _ => .bad
theorem e_index (hc : c = true) (ho : SE m T k c t sc N ow o fo) (ha : SA m T k c t sc N ow (e :: es) fs)
    (hbase : ∀ env, attributeBase o "index" env (eval o env) = eval o env := by intro _; rfl)
    (hfew : ∀ env, ((backTo pos (starEach (e :: es) env)).all (fun x => !x.1) && (backToKw pos (keywordEach [] env)).all (fun x => x.1.isSome)
      && decide ((e :: es).length + ([] : List Keyword).length + (if ([] : List Keyword).isEmpty then 0 else 1) < 30)) = true := by intro _; rfl)
    (hline : (apos.endLine == pos.line) = true := by rfl) (hs : ∀ env, starEach (e :: es) env = (false, eval e env) :: starEach es env := by intro _; rfl) (hplain : ∀ env, (backTo pos (starEach es env)).any (·.1) = false := by intro _; rfl) :
    SE m T k c t sc N ow (.Call (.Attribute o "index" apos) (e :: es) [] pos) (fun s => bmM "str" (fo s) (fs s) indexM) := fun X g Wx tk => by
  have ek : X.K = m.K := by rw [← g.mo]; rfl
  refine ⟨fun pins s σ H Q I h => (pe_bmS PySem.F.plainAttrs_str PySem.F.slot_str_index PySem.F.type_str_index (mt_indexX (g.calm hc) tk) (ho X g Wx tk) (ha X g Wx tk) (hbase _) (hfew _) hline (hs _) (hplain _)).run pins s σ H Q I ?_⟩
  obtain ⟨ad, S, sl, R, L, h⟩ := h
  refine ⟨ad, S, sl, R, L, run_imp (run_bd h) ?_⟩
  rintro v H1 ⟨ad1, S1, w1, l1, R1, r1, h1⟩
  split at h1
  · rename_i ht
    refine ⟨by rw [ek]; exact tyN_tyV R1 r1 ht (.inl rfl), ad1, S1, sl, R1, L.mono l1, runA_imp (runA_bd h1) ?_⟩
    rintro vs H2 ⟨ad2, S2, ws, l2, R2, r2, h2⟩
    unfold indexM at h2
    split at h2
    · cases r1
      match vs, r2 with
      | [_], .cons (.str _) .nil =>
        split at h2
        · rename_i hi
          exact ⟨_, _, rfl, rfl, fun k hk => by rw [hi] at hk; cases hk; exact run_ok R2 (.int _) h2, fun hk => by rw [hi] at hk; cases hk⟩
        · exact h2.elim
    · exact h2.elim
  · exact h1.elim
/-! ### subscripts -/
def ixM (w y : W) : M W := fun S => match w, y with
  | .tup xs, .int i => match atI xs i with
    | some v => .ok v S
    | none => .bad
  | .str z, .int i => match atI z.cps.toList i with
    | some cp => if z.length ≤ sizeLine then .ok (.str ⟨#[cp]⟩) S else .bad
    | none => .bad
  | .ref r, .int i => match seqOf S r with
    | some xs => match atI xs i with
      | some v => .ok v S
      | none => .bad
    | none => .bad
  | _, _ => .bad
theorem atI_rel {K : PySem.W.Frag} {ad : List Addr} {H : Hp} {ws : List W} {vs : List V} {i : Int} {w : W} (r : RelWs K ad H ws vs) (e : atI ws i = some w) : ∃ v, atI vs i = some v ∧ RelW K ad H w v := by
  unfold atI at e ⊢
  rw [← r.length]
  cases q : ixN ws.length i with
  | none => rw [q] at e; cases e
  | some j =>
    rw [q] at e
    obtain ⟨v, h1, h2⟩ := r.get e
    exact ⟨v, h1, h2⟩
theorem e_ix (ha : SE m T k c t sc N ow a fa) (hb : SE m T k c t sc N ow b fb) (hs : PlainIx b := by intro _ _; rfl) : SE m T k c t sc N ow (.Subscript a b pos) (fun s => bd (fa s) fun x => bd (fb s) fun y => ixM x y) := fun X g Wx tk => by
  have ha := ha X g Wx tk
  have hb := hb X g Wx tk
  obtain ⟨rfl, _⟩ := g
  refine (pe_ix ix_seq ha hb hs).imp fun σ H Q h => ?_
  obtain ⟨ad, S, sl, R, L, h⟩ := h
  refine ⟨ad, S, sl, R, L, run_imp (run_bd h) ?_⟩
  rintro v H1 ⟨ad1, S1, w1, l1, R1, r1, h1⟩
  refine ⟨ad1, S1, sl, R1, L.mono l1, run_imp (run_bd h1) ?_⟩
  rintro u H2 ⟨ad2, S2, w2, l2, R2, r2, h2⟩
  have r1 := r1.mono l2
  unfold ixM at h2
  split at h2
  · cases r2
    cases r1 with
    | tup s1 rr =>
    split at h2
    · rename_i he
      obtain ⟨v', q1, q2⟩ := atI_rel rr he
      exact .inr (.inl ⟨_, _, _, v', rfl, rfl, s1, q1, run_ok R2 q2 h2⟩)
    · exact h2.elim
  · cases r2
    cases r1
    split at h2
    · rename_i he
      split at h2
      · exact .inr (.inr ⟨_, _, _, rfl, rfl, by assumption, he, run_ok R2 (.str _) h2⟩)
      · exact h2.elim
    · exact h2.elim
  · cases r2
    cases r1 with
    | ref e1 =>
    split at h2
    · rename_i hsq
      split at h2
      · rename_i he
        obtain ⟨vs, q, rr⟩ := R2.seq e1 hsq
        obtain ⟨v', q1, q2⟩ := atI_rel rr he
        exact .inl ⟨_, _, _, v', rfl, rfl, q, q1, run_ok R2 q2 h2⟩
      · exact h2.elim
    · exact h2.elim
  · exact h2.elim
end
end RP

/-! RpL: slices, stores into lists, fields by an operator, own == and len. -/
namespace RP
open PySem L2
section
variable {m : Mo} {T : Tab} {k : Nat} {c t : Bool} {sc : Scope} {N ow : List Str} {a b e o : Expr} {lo hi : Option Expr} {fo fe fa fb : Slots → M W} {pos p p2 apos : Pos} {f : Str} {cc j n : Nat}
/-! ### slices -/
def runO (T : Tab) (K : PySem.W.Frag) (ad : List Addr) (H : Hp) (r : Res (Option Int)) (Q : Option Int → Hp → Prop) (E : XK) : Prop := match r with
  | .ok b S => ∀ ad' H', Le K ad H ad' H' → Rel T K ad' H' S → Q b H'
  | .ex x S => ∀ ad' H' cls d, Le K ad H ad' H' → Rel T K ad' H' S → RelX T K ad' H' x cls d → E cls d H'
  | .bad => False
def rdO (T : Tab) (K : PySem.W.Frag) (f : Slots → M (Option Int)) (Wx : WX) : TO := fun σ H Q => ∃ ad S sl, Rel T K ad H S ∧ RelSl K ad H sl σ ∧ runO T K ad H (f sl S) Q fun c d H' => Wx c d σ H'
def SO (m : Mo) (T : Tab) (k : Nat) (c t : Bool) (sc : Scope) (N ow : List Str) (e : Option Expr) (f : Slots → M (Option Int)) : Prop := ∀ X, Good m k c t sc N ow X → ∀ Wx, Takes X Wx → PO X e (rdO T m.K f Wx)
def partM (w : W) : M (Option Int) := fun S => match w with
  | .int i => .ok (some i) S
  | _ => .bad
theorem o_no : SO m T k c t sc N ow none (fun _ => ret none) := fun X g Wx tk => ⟨fun pins s σ H Q I h => po_none.run pins s σ H Q I (by
  obtain ⟨ad, S, sl, R, L, h⟩ := h
  exact h _ _ Le.refl R)⟩
theorem run_bdO {K : PySem.W.Frag} {ad : List Addr} {H : Hp} {mm : M W} {kk : W → M (Option Int)} {S : Sto} {Q : Option Int → Hp → Prop} {E : XK} (h : runO T K ad H (bd mm kk S) Q E) :
    run T K ad H (mm S) (fun v H1 => ∃ ad1 S1 w, Le K ad H ad1 H1 ∧ Rel T K ad1 H1 S1 ∧ RelW K ad1 H1 w v ∧ runO T K ad1 H1 (kk w S1) Q E) E := by
  unfold bd at h
  cases q : mm S with
  | ok w S1 =>
    rw [q] at h
    refine fun a b c l R r => ⟨a, S1, w, l, R, r, ?_⟩
    cases q2 : kk w S1 with
    | ok v S2 => simp only [q2] at h; exact fun a' b' l' => h a' b' (l.trans l')
    | ex x S2 => simp only [q2] at h; exact fun a' b' c' d' l' => h a' b' c' d' (l.trans l')
    | bad => simp only [q2] at h; exact h
  | ex x S => rw [q] at h; exact h
  | bad => rw [q] at h; exact h
theorem o_some (he : SE m T k c t sc N ow e fe) : SO m T k c t sc N ow (some e) (fun s => bd (fe s) partM) := fun X g Wx tk => ⟨fun pins s σ H Q I h => (po_some (he X g Wx tk)).run pins s σ H Q I (by
  obtain ⟨ad, S, sl, R, L, h⟩ := h
  refine ⟨ad, S, sl, R, L, run_imp (run_bdO h) ?_⟩
  rintro v H1 ⟨ad1, S1, w1, l1, R1, r1, h1⟩
  unfold partM at h1
  split at h1
  · cases r1
    exact ⟨_, rfl, h1 _ _ Le.refl R1⟩
  · exact h1.elim)⟩
/-- the items from lo to hi -/
def cutL {α : Type} (xs : List α) (lo hi : Option Int) : List α := (xs.drop (HT.sIx xs.length 0 lo)).take (HT.sIx xs.length xs.length hi - HT.sIx xs.length 0 lo)
theorem cut_rel {K : PySem.W.Frag} {ad : List Addr} {H : Hp} {ws : List W} {vs : List V} (r : RelWs K ad H ws vs) (lo hi : Option Int) : RelWs K ad H (cutL ws lo hi) (cutV vs lo hi) := by
  unfold cutL cutV
  rw [← r.length]
  exact (r.drop _).take _
def sliceM (w : W) (lo hi : Option Int) : M W := fun S => match w with
  | .str z => if z.length ≤ sizeLine then .ok (.str (cutS z lo hi)) S else .bad
  | .tup xs => .ok (.tup (cutL xs lo hi)) S
  | .ref i => match seqOf S i with
    | some xs => .ok (.ref S.length) (S ++ [.lst (cutL xs lo hi)])
    | none => .bad
  | _ => .bad
def bdO (m : M (Option Int)) (k : Option Int → M W) : M W := fun S => match m S with
  | .ok v S' => k v S'
  | .ex x S' => .ex x S'
  | .bad => .bad
theorem runO_bd {K : PySem.W.Frag} {ad : List Addr} {H : Hp} {mm : M (Option Int)} {kk : Option Int → M W} {S : Sto} {Q : VK} {E : XK} (h : run T K ad H (bdO mm kk S) Q E) :
    runO T K ad H (mm S) (fun v H1 => ∃ ad1 S1, Le K ad H ad1 H1 ∧ Rel T K ad1 H1 S1 ∧ run T K ad1 H1 (kk v S1) Q E) E := by
  unfold bdO at h
  cases q : mm S with
  | ok w S1 => rw [q] at h; exact fun a b l R => ⟨a, S1, l, R, run_mono l h⟩
  | ex x S => rw [q] at h; exact h
  | bad => rw [q] at h; exact h
theorem runO_imp {K : PySem.W.Frag} {ad : List Addr} {H : Hp} {r : Res (Option Int)} {Q Q' : Option Int → Hp → Prop} {E : XK} (h : runO T K ad H r Q E) (q : ∀ v H, Q v H → Q' v H) : runO T K ad H r Q' E := by
  cases r with
  | ok w S => exact fun a b l' R => q _ _ (h a b l' R)
  | ex x S => exact h
  | bad => exact h
theorem e_slice {fl fh : Slots → M (Option Int)} (he : SE m T k c t sc N ow e fe) (hl : SO m T k c t sc N ow lo fl) (hh : SO m T k c t sc N ow hi fh) : SE m T k c t sc N ow (.Subscript e (.Slice lo hi none p2) pos) (fun s => bd (fe s) fun w => bdO (fl s) fun l => bdO (fh s) fun h => sliceM w l h) := fun X g Wx tk => by
  have he := he X g Wx tk
  have hl := hl X g Wx tk
  have hh := hh X g Wx tk
  obtain ⟨rfl, _⟩ := g
  refine (pe_slice ((sl_list.or sl_tupA).or sl_str) he hl hh).imp fun σ H Q h => ?_
  obtain ⟨ad, S, sl, R, L, h⟩ := h
  refine ⟨ad, S, sl, R, L, run_imp (run_bd h) ?_⟩
  rintro v H1 ⟨ad1, S1, w1, l1, R1, r1, h1⟩
  refine ⟨ad1, S1, sl, R1, L.mono l1, runO_imp (runO_bd h1) ?_⟩
  rintro lv H2 ⟨ad2, S2, l2, R2, h2⟩
  refine ⟨ad2, S2, sl, R2, (L.mono l1).mono l2, runO_imp (runO_bd h2) ?_⟩
  rintro hv H3 ⟨ad3, S3, l3, R3, h3⟩
  have r1 := (r1.mono l2).mono l3
  unfold sliceM at h3
  split at h3
  · split at h3
    · cases r1
      exact .inr ⟨_, rfl, by assumption, run_ok R3 (.str _) h3⟩
    · exact h3.elim
  · cases r1 with
    | tup s1 rr =>
    refine .inl (.inr ⟨_, _, rfl, s1, fun hw => ?_, fun _ p hp => run_newtup R3 hp (cut_rel rr lv hv) h3⟩)
    rw [← rr.length] at hw
    have e : ∀ (zs : List W), HT.sIx zs.length 0 lv = 0 ∧ HT.sIx zs.length zs.length hv = zs.length → cutL zs lv hv = zs := fun zs hz => by
      unfold cutL
      rw [hz.1, hz.2]
      simp
    rw [e _ hw] at h3
    exact run_ok R3 (.tup s1 rr) h3
  · split at h3
    · rename_i hs
      cases r1 with
      | ref e1 =>
      obtain ⟨vs, q, rr⟩ := R3.seq e1 hs
      exact .inl (.inl ⟨_, _, rfl, q, fun p hp => run_newlst R3 hp (cut_rel rr lv hv) h3⟩)
    · exact h3.elim
  · exact h3.elim
/-! ### stores into lists -/
def setIxM (o i v : W) : M Unit := fun S => match o, i with
  | .ref r, .int n => match S[r]? with
    | some (.lst xs) => match ixN xs.length n with
      | some j => .ok () (S.set r (.lst (xs.set j v)))
      | none => .bad
    | _ => .bad
  | _, _ => .bad
theorem takes_no {X : Cx} : Takes X (fun _ _ _ _ => False) := fun u s' ⟨_, _, _, _, _, _, _, _, _, _, _, _, _, _, _, _, w⟩ => w.elim
theorem runG_bd {K : PySem.W.Frag} {ad : List Addr} {H : Hp} {mm : M W} {kk : W → M Slots} {S : Sto} {Q : St → Hp → Prop} {E : XK} (h : runG T K ad H (bd mm kk S) Q) :
    run T K ad H (mm S) (fun v H1 => ∃ ad1 S1 w, Le K ad H ad1 H1 ∧ Rel T K ad1 H1 S1 ∧ RelW K ad1 H1 w v ∧ runG T K ad1 H1 (kk w S1) Q) E := by
  unfold bd at h
  cases q : mm S with
  | ok w S1 => rw [q] at h; exact fun a b c l R r => ⟨a, S1, w, l, R, r, runG_mono l h⟩
  | ex x S => rw [q] at h; exact h.elim
  | bad => rw [q] at h; exact h.elim
theorem g_ix (ho : SE m T k c t sc N ow o fo) (hi : SE m T k c t sc N ow b fb)
    (ha : ∀ env v, assign (.Subscript o b pos) env v = (do
      let ov ← holding [v] (eval o env)
      let iv ← holding [v, ov] (eval b env)
      standAt pos
      holding [v, ov, iv] (setItem ov iv v)
      release [v, ov, iv] []) := by intro _ _; rfl) : SG m T k c t sc N ow (.Subscript o b pos) (fun v s => bd (fo s) fun w => bd (fb s) fun i => bd (setIxM w i v) fun _ => ret s) := fun X g => by
  have ho := ho X g _ takes_no
  have hi := hi X g _ takes_no
  obtain ⟨rfl, _⟩ := g
  refine (pg_sub ho hi set_list (ha _)).imp fun v σ H Q h => ?_
  obtain ⟨ad, S, sl, w, R, L, r, h⟩ := h
  refine ⟨ad, S, sl, R, L, run_imp (runG_bd h) ?_⟩
  rintro ov H1 ⟨ad1, S1, w1, l1, R1, r1, h1⟩
  refine ⟨ad1, S1, sl, R1, L.mono l1, run_imp (runG_bd h1) ?_⟩
  rintro iv H2 ⟨ad2, S2, w2, l2, R2, r2, h2⟩
  have r1 := r1.mono l2
  have r := (r.mono l1).mono l2
  unfold bd setIxM at h2
  cases w1 with
  | ref i =>
    cases w2 with
    | int n =>
      cases r2
      cases r1 with
      | ref e1 =>
      cases hs : S2[i]? with
      | none => simp only [hs] at h2; exact h2.elim
      | some ob =>
        cases ob with
        | lst xs =>
          simp only [hs] at h2
          cases hj : ixN xs.length n with
          | none => simp only [hj] at h2; exact h2.elim
          | some j =>
            simp only [hj] at h2
            obtain ⟨vs, q, rr⟩ := R2.lst e1 hs
            refine ⟨_, vs, n, j, rfl, rfl, q, by rw [← rr.length]; exact hj, ?_⟩
            have b5 := But.upd (u := .lst (vs.set j v)) q trivial
            have hf : ∀ o u, H2 _ ≠ some (.frz o (.tup u)) := fun o u z => by rw [q] at z; cases z
            have l5 := b5.le (K := X.K) hf (List.mem_of_getElem? e1) (R2.keen e1)
            exact h2 _ _ _ l5 (R2.write e1 b5 hf ⟨_, upd_same, (rr.set r j).mono l5⟩) (((L.mono l1).mono l2).mono l5)
        | _ => simp only [hs] at h2; exact h2.elim
    | _ => exact h2.elim
  | _ => cases w2 <;> exact h2.elim
/-! ### o.f op= e -/
theorem s_fldaug {op : Operator} {gg : W → W → M W} (F : FldOk m T cc j f) (ho : SE m T k c t sc N ow o fo) (he : SE m T k c t sc N ow e fe) (hop : SI m T k c t sc N ow op gg) :
    SS m T k c t sc N ow (.AugAssign (.Attribute o f apos) op e pos) (fun s => exS s (fo s) fun w => exS s (fldM false cc j w) fun x => exS s (fe s) fun y => exS s (gg x y) fun z => asgM (bd (setFldM false cc j w z) fun _ => ret s)) := fun X g Wx tk => by
  have ho := ho X g Wx tk
  have he := he X g Wx tk
  have hop := fun E => hop X g E
  obtain ⟨rfl, _⟩ := g
  refine ⟨fun pins s σ H D I h => (ps_fldaug (rd := r2 T X.K gg fun c d H' => Wx c d σ H') ho he (hop fun c d H' => Wx c d σ H')).run pins s σ H D I ?_⟩
  obtain ⟨ad, S, sl, R, L, h⟩ := h
  refine ⟨ad, S, sl, R, L, run_imp (run_exS L h) ?_⟩
  rintro ov H1 ⟨ad1, S1, w1, l1, R1, r1, h1⟩
  have L1 := L.mono l1
  unfold exS fldM at h1
  cases w1 with
  | ref i =>
    cases hs : S1[i]? with
    | none => simp only [hs] at h1; exact h1.elim
    | some ob =>
      cases ob with
      | ins c fs =>
        simp only [hs] at h1
        by_cases hcc : c = cc
        · subst hcc
          simp only [true_and, if_true] at h1
          cases hv : fs[j]? with
          | none => simp only [hv] at h1; exact h1.elim
          | some x =>
            simp only [hv] at h1
            cases r1 with
            | ref e1 =>
            obtain ⟨dx, vs, q1, q2, q3⟩ := R1.ob _ _ _ e1 hs
            obtain ⟨v', hv', rv⟩ := q3.get hv
            refine ⟨_, _, dx, _, v', rfl, q1, F.cl, F.no, lookup_zip F.nd F.at_ hv', ad1, S1, sl, R1, L1, run_imp (run_exS L1 h1) ?_⟩
            rintro yv H2 ⟨ad2, S2, w2, l2, R2, ry, h2⟩
            refine ⟨ad2, S2, x, w2, R2, rv.mono l2, ry, run_imp (run_exS (L1.mono l2) h2) ?_⟩
            rintro zv H3 ⟨ad3, S3, w3, l3, R3, rz, h3⟩
            have h3 := runS_asg h3
            have e3 := pre_get l3.pre (pre_get l2.pre e1)
            unfold bd setFldM at h3
            cases hs3 : S3[i]? with
            | none => simp only [hs3] at h3; exact h3.elim
            | some ob3 =>
              cases ob3 with
              | ins c3 fs3 =>
                simp only [hs3] at h3
                by_cases hcc3 : c3 = c
                · subst hcc3
                  simp only [true_and, if_true] at h3
                  cases hp : putAt j w3 fs3 with
                  | none => simp only [hp] at h3; exact h3.elim
                  | some fs' =>
                    simp only [hp] at h3
                    obtain ⟨dx3, vs3, a1, a2, a3⟩ := R3.ob _ _ _ e3 hs3
                    obtain ⟨vs', b1, b2, b3⟩ := put_ins F a3 rz a2 hp
                    refine ⟨dx3, _, a1, ?_, ?_⟩
                    · have := F.few
                      rw [List.length_zip, ← a3.length]
                      omega
                    · rw [b1]
                      have b5 := But.upd (u := .ins (T.cls c3) dx3 ((T.fl c3).zip vs')) a1 trivial
                      have hf : ∀ o u, H3 _ ≠ some (.frz o (.tup u)) := fun o u z => by rw [a1] at z; cases z
                      have l5 := b5.le (K := X.K) hf (List.mem_of_getElem? e3) (R3.keen e3)
                      exact h3 _ _ _ l5 (R3.write e3 b5 hf ⟨dx3, vs', upd_same, b2, b3.mono l5⟩) (((L1.mono l2).mono l3).mono l5)
                · simp only [hcc3, and_false, if_false] at h3; exact h3.elim
              | _ => simp only [hs3] at h3; first | exact h3.elim | (simp at h3; exact h3.elim)
        · simp only [hcc, and_false, if_false] at h1; exact h1.elim
      | _ => simp only [hs] at h1; first | exact h1.elim | (simp at h1; exact h1.elim)
  | _ => exact h1.elim
/-! ### own ==, !=, len -/
structure EqS (m : Mo) (T : Tab) (cc : Nat) (ga : Addr) : Prop where
  eq : PySem.W.findIn m.K (.ref (T.cls cc)) "__eq__" = some (some (.ref ga))
  fn : PySem.W.isFn m.K (.ref ga) = true
  nf : PySem.W.notFirst m.K (T.cls cc) (.ref (T.cls cc)) = true
def eqOwnM (cc : Nat) (g : List W → M W) (x y : W) : M W := fun S => if clsOf S x = some (true, cc) ∧ clsOf S y = some (true, cc) then g [x, y] S else .bad
theorem c_eqOwn {ga : Addr} {g1 : List W → M W} (hc : c = true) (Q : EqS m T cc ga) (F : FnM m T k ga n g1) (hg : Calm g1) : SC m T k c t sc N ow .Eq (eqOwnM cc g1) := .of fun X g E pins s σ H x y v u Q' I rx ry ⟨ad, S, w, z, R, rw', rz, h⟩ => by
  have room := g.room hc
  obtain ⟨rfl, _⟩ := g
  unfold eqOwnM at h
  split at h
  · rename_i hcl
    obtain ⟨a, dx, vs, rfl, q1⟩ := clsOf_slo R rw' hcl.1
    obtain ⟨b, dy, us, rfl, q2⟩ := clsOf_slo R rz hcl.2
    refine SlX.op_own (E := fun _ _ _ => False) (op := .Eq) (fun _ _ => rfl) Q.eq Q.fn F.raw room (fun pins σ H s e s' _ z => ?_) pins s σ H _ _ v u Q' I rx ry ⟨a, dx, _, b, _, dy, _, rfl, rfl, q1, q2, Q.nf, ad, S, _, R, .cons rw' (.cons rz .nil), run_calm hg h⟩
    obtain ⟨_, _, _, _, _, _, _, _, _, _, _, _, z⟩ := z
    exact z.elim
  · exact h.elim
end
end RP

/-! RpM: own != and len. -/
namespace RP
open PySem PySem.Spec PyProof.Rows L2
section
variable {prog : Program} {w : World} {A : Around} {E : Value → Shared → Prop} {s : Shared} {K : PySem.W.Frag} {x y C f : Addr} {ox : Obj} {od : Option Obj}
theorem entry_ne {Q : Fin → Shared → Prop} (hu : A.units < cLine) (X : K.In s.heap) (I : PySem.W.InstAt s.heap x ox C od) (hs : PySem.W.findIn K (.ref C) "__eq__" = some (some (.ref f))) (hf : PySem.W.isFn K (.ref f) = true)
    (h : wpAny (model prog w) A (call (.ref f) [.ref x, .ref y]) (fun v s' => ∃ b, v = .bool b ∧ Q (.done (.ret (.bool (!b)))) s') E s) : wpAny (model prog w) A (Builtin.«object.__ne__» ⟨[.ref x, .ref y], []⟩) Q E s := by
  unfold Builtin.«object.__ne__»
  repeat (first
    | with_reducible refine wpAny_cRoomFor hu ?_
    | (refine wpAny_bind (m := callSpecialIfBound? (.ref x) (Str.ofString "__eq__") [.ref y])
        (PySem.W.ifBound_K X I hs hf (wpAny_mono h (fun r s' hr => by
          obtain ⟨b, rfl, hq⟩ := hr
          repeat (first | exact hq | exact wpAny_pure hq | exact wpAny_truthy_bool hq | (refine wpAny_bind (m := truthy (.bool _)) (wpAny_truthy_bool ?_)) | wp_step)) fun _ _ e => e)))
    | wp_step)
theorem ifBound_objNe {M : Model} {args : List Value} {Q : Option Value → Shared → Prop} (X : K.In s.heap) (I : PySem.W.InstAt s.heap x ox C od) (hs : PySem.W.findIn K (.ref C) "__ne__" = some (some (.builtin "object.__ne__")))
    (h : wpAny M A (call (.builtin "object.__ne__") (.ref x :: args)) (fun v => Q (some v)) E s) : wpAny M A (callSpecialIfBound? (.ref x) "__ne__" args) Q E s := by
  simp only [callSpecialIfBound?, bindSpecialIfBound?]
  refine wpAny_holding (wpAny_bind (wpAny_bind (wpAny_bind (I.type.here ((PySem.W.looks_findIn X hs).here ?_)))))
  refine wpAny_bind (wpAny_askSetting (wpAny_ite ?_))
  have fin : wpAny M A (call (.builtin "object.__ne__") ([.ref x] ++ args) >>= fun v => pure (some v)) Q E s := wpAny_bind (wpAny_mono h (fun v s' h' => wpAny_pure h') fun _ _ h' => h')
  split
  · exact wpAny_bind (wpAny_of_eq (F.cmp_object.ne.bind _) (wpAny_pure (by exact fin)))
  · exact wpAny_tryCatch (wpAny_bind (wpAny_of_eq (F.cmp_object.ne.bind _) (wpAny_pure (by exact fin))))
theorem rc_neOwn {Q : Value → Shared → Prop} (hu : A.units + 1 < cLine) (X : K.In s.heap) (I : PySem.W.InstAt s.heap x ox C od) (hb : PySem.W.Looks (model prog w) s.heap (typeOf (.ref y)) (.ref C)) (hm : PySem.W.mroIn K C (.type "object") = some true)
    (hn : PySem.W.findIn K (.ref C) "__ne__" = some (some (.builtin "object.__ne__"))) (hs : PySem.W.findIn K (.ref C) "__eq__" = some (some (.ref f))) (hf : PySem.W.isFn K (.ref f) = true)
    (h : wpAny (model prog w) A.in1 (call (.ref f) [.ref x, .ref y]) (fun v s' => ∃ b, v = .bool b ∧ Q (.bool (!b)) s') E s) : wpAny (model prog w) A (richCompare .NotEq (.ref x) (.ref y)) Q E s := by
  have one : wpAny (model prog w) A (tryCompare (.ref x) "__ne__" (.ref y)) (fun r s' => ∃ v, r = some v ∧ Q v s') E s := by
    unfold tryCompare
    refine wpAny_bind (ifBound_objNe X I hn (wpAny_call (codeAny_call_builtin F.cmp_object.ne.plain F.cmpEntry_ne (PySem.W.check_slot F.cmpKind_ne F.cmpSplit_ne (I.type.andThen (PySem.W.looks_mroIn X hm)) (F.cmpArgs_ne _ _)
      (entry_ne (A := A.in1) hu X I hs hf (wpAny_mono h (fun v s' hv => ?_) fun _ _ e => e))))))
    obtain ⟨b, rfl, hq⟩ := hv
    first
      | exact ⟨b, rfl, wpAny_pure ⟨_, rfl, hq⟩⟩
      | exact ⟨b, rfl, _, rfl, wpAny_pure ⟨_, rfl, hq⟩⟩
      | exact ⟨b, rfl, wpAny_pure (wpAny_pure ⟨_, rfl, hq⟩)⟩
  simp only [richCompare, cmpInfo_NotEq, oneThing_ref]
  refine wpAny_holding (wpAny_bind (wpAny_cRoomFor (Nat.lt_of_succ_lt hu) ?_))
  refine wpAny_bind (I.type.here (wpAny_bind (hb.here ?_)))
  split
  · rename_i q
    simp at q
  · refine wpAny_bind (wpAny_pure ?_)
    simp only [Bool.false_eq_true, if_false]
    refine wpAny_bind (wpAny_mono one (fun r s' z => ?_) fun _ _ e => e)
    obtain ⟨v, rfl, hq⟩ := z
    exact wpAny_pure hq
end
section
variable {m : Mo} {T : Tab} {k : Nat} {c t : Bool} {sc : Scope} {N ow : List Str} {cc n : Nat} {ga : Addr} {g1 : List W → M W}
structure NeS (m : Mo) (T : Tab) (cc : Nat) : Prop where
  ne : PySem.W.findIn m.K (.ref (T.cls cc)) "__ne__" = some (some (.builtin "object.__ne__"))
  mro : PySem.W.mroIn m.K (T.cls cc) (.type "object") = some true
def neOwnM (cc : Nat) (g : List W → M W) (x y : W) : M W := fun S => if clsOf S x = some (true, cc) ∧ clsOf S y = some (true, cc) then bd (g [x, y]) ngW S else .bad
theorem c_neOwn {j : Nat} (hc : c = true) (Q : EqS m T cc ga) (Z : NeS m T cc) (F : FnM m T j ga n g1) (hg : Calm g1) (hj : j + 1 ≤ k := by decide) : SC m T k c t sc N ow .NotEq (neOwnM cc g1) := .of fun X g E pins s σ H x y v u Q' I rx ry ⟨ad, S, w, z, R, rw', rz, h⟩ => by
  have room := (g.room hc).mono hj
  have un := g.un
  obtain ⟨rfl, _⟩ := g
  unfold neOwnM at h
  split at h
  · rename_i hcl
    obtain ⟨a, dx, vs, rfl, q1⟩ := clsOf_slo R rw' hcl.1
    obtain ⟨b, dy, us, rfl, q2⟩ := clsOf_slo R rz hcl.2
    cases (show v = Value.ref a from rx)
    cases (show u = Value.ref b from ry)
    obtain ⟨sl, od, _, J, _⟩ := SlX.slt_inst I q1
    obtain ⟨sl', od', _, J', _⟩ := SlX.slt_inst I q2
    show wpAny _ _ (richCompare .NotEq (.ref a) (.ref b)) _ _ _
    refine rc_neOwn (by omega) I.kIn J J'.type Z.mro Z.ne Q.eq Q.fn ?_
    refine wpAny_call (codeAny_mono (F.raw X.A.in1 X.stack s H [.ref a, .ref b] [.ref a, .ref b] (fun v H1 => ∃ bb, v = .bl bb ∧ Q' (.bl (!bb)) H1) (fun _ _ _ => False) room.in1 I.env0.in1 (.cons rfl (.cons rfl .nil)) ⟨ad, S, _, R, .cons rw' (.cons rz .nil), ?_⟩) fun r s' hq => ?_)
    · refine run_calm hg (E := E) (run_imp (run_bd h) ?_)
      rintro v1 H1 ⟨ad1, S1, w1, l1, R1, r1, h1⟩
      unfold ngW at h1
      split at h1
      · cases r1
        exact ⟨_, rfl, run_ok R1 (.bl _) h1⟩
      · exact h1.elim
    · cases r with
      | error er =>
        obtain ⟨_, _, _, _, _, _, _, _, _, _, _, _, z⟩ := hq
        exact z.elim
      | ok fl =>
        cases fl with
        | ret u2 =>
          obtain ⟨v', H', I3, rv, bb, rfl, q3⟩ := I.after hq
          cases rv
          exact ⟨bb, rfl, .bl _, H', I3, rfl, q3⟩
        | next => exact False.elim hq
        | brk => exact False.elim hq
        | cont => exact False.elim hq
  · exact h.elim
/-- len(x) by the class's own -/
structure LenS (m : Mo) (T : Tab) (cc : Nat) (ga : Addr) : Prop where
  ln : PySem.W.findIn m.K (.ref (T.cls cc)) "__len__" = some (some (.ref ga))
  fn : PySem.W.isFn m.K (.ref ga) = true
def lenOwnM (cc : Nat) (g : List W → M W) (ws : List W) : M W := fun S => match ws with
  | [x] => if clsOf S x = some (true, cc) then
      match g [x] S with
      | .ok (.int i) S' => if 0 ≤ i ∧ i < 2 ^ 63 then .ok (.int i) S' else .bad
      | _ => .bad
    else .bad
  | _ => .bad
theorem n_lenOwn {j : Nat} (hc : c = true) (Q : LenS m T cc ga) (F : FnM m T j ga n g1) (hj : j + 1 ≤ k := by decide) : SN m T k c t sc N ow (.builtin "len") (lenOwnM cc g1) := fun X g E pins s σ H xs us Q' I r ⟨ad, S, ws, R, rw', h⟩ => by
  have room := (g.room hc).mono hj
  obtain ⟨rfl, _⟩ := g
  unfold lenOwnM at h
  split at h
  · rename_i x
    split at h
    · rename_i hcl
      match xs, rw' with
      | [v], .cons r1 .nil =>
        obtain ⟨a, dx, vs, rfl, q1⟩ := clsOf_slo R r1 hcl
        obtain ⟨u, rfl, ru⟩ := vals1 r
        cases (show u = Value.ref a from ru)
        obtain ⟨sl, od, _, J, _⟩ := SlX.slt_inst I q1
        obtain ⟨mF, hF⟩ := I.fr
        refine PySem.W.len_K hF I.ok.mod.kin J Q.ln Q.fn ?_
        refine wpAny_call (codeAny_mono (F.raw X.A.in1 X.stack s H [.ref a] [.ref a] (fun v H1 => ∃ i, v = .int i ∧ (0 ≤ i ∧ i < 2 ^ 63) ∧ Q' (.int i) H1) (fun _ _ _ => False) room.in1 I.env0.in1 (.cons rfl .nil) ⟨ad, S, _, R, .cons r1 .nil, ?_⟩) fun r s' hq => ?_)
        · cases q : g1 [x] S with
          | ok w S1 =>
            rw [q] at h
            cases w with
            | int i =>
              simp only at h
              split at h
              · rename_i hi
                intro ad1 H1 v l1 R1 rv
                cases rv
                exact ⟨i, rfl, hi, h _ _ _ l1 R1 (.int i)⟩
              · exact h.elim
            | _ => exact h.elim
          | ex x S1 => rw [q] at h; exact h.elim
          | bad => rw [q] at h; exact h.elim
        · cases r with
          | error er =>
            obtain ⟨_, _, _, _, _, _, _, _, _, _, _, _, z⟩ := hq
            exact z.elim
          | ok fl =>
            cases fl with
            | ret u2 =>
              obtain ⟨v', H', I3, rv, i, rfl, hi, q3⟩ := I.after hq
              obtain ⟨tk, rfl⟩ := rv
              exact ⟨hi, .int i, H', I3.tok _, ⟨_, rfl⟩, q3⟩
            | next => exact False.elim hq
            | brk => exact False.elim hq
            | cont => exact False.elim hq
    · exact h.elim
  · exact h.elim
end
end RP

/-! RpN: stars in displays, constants of the module, isinstance of an own class. -/
namespace RP
open PySem L2
section
variable {m : Mo} {T : Tab} {k : Nat} {c t : Bool} {sc : Scope} {N ow : List Str} {e o : Expr} {es : List Expr} {fe fo : Slots → M W} {fs : Slots → M (List W)} {pos p p2 : Pos} {cc : Nat}
def starM (w : W) : M (List W) := fun S => match w with
  | .tup ws => .ok ws S
  | .ref i => match seqOf S i with
    | some ws => .ok ws S
    | none => .bad
  | _ => .bad
theorem a_star (he : SE m T k c t sc N ow e fe) (hr : SA m T k c t sc N ow es fs) (hs : ∀ env, starEach (.Starred e p :: es) env = (true, eval e env) :: starEach es env := by intro _; rfl) :
    SA m T k c t sc N ow (.Starred e p :: es) (fun s => bd (fe s) fun x => bd (starM x) fun xs => bd (fs s) fun ys => ret (xs ++ ys)) := fun X g Wx tk => by
  have he := he X g Wx tk
  have hr := hr X g Wx tk
  obtain ⟨rfl, _⟩ := g
  refine (StX.pa_star he hr (hs _)).imp fun σ H Q h => ?_
  obtain ⟨ad, S, sl, R, L, h⟩ := h
  refine ⟨ad, S, sl, R, L, run_imp (run_bdA h) ?_⟩
  rintro v H1 ⟨ad1, S1, w1, l1, R1, r1, h1⟩
  have fin : ∀ {ws : List W} {vs : List V}, RelWs X.K ad1 H1 ws vs → runA T X.K ad1 H1 (bd (fs sl) (fun ys => ret (ws ++ ys)) S1) Q (fun c d H' => Wx c d σ H') → rdA T X.K fs Wx σ H1 fun us H2 => Q (vs ++ us) H2 := fun {ws vs} rr h => by
    refine ⟨ad1, S1, sl, R1, L.mono l1, runA_imp (runA_bdA h) ?_⟩
    rintro us H2 ⟨ad2, S2, ys, l2, R2, r2, h2⟩
    exact h2 _ _ _ Le.refl R2 ((rr.mono l2).append r2)
  cases w1 with
  | tup ws =>
    cases r1 with
    | tup s1 rr => exact ⟨_, _, rfl, .inl s1, fin rr h1⟩
  | ref i =>
    cases r1 with
    | ref e1 =>
    unfold bd at h1
    simp only [starM] at h1
    cases hs : seqOf S1 i with
    | none => simp only [hs] at h1; exact h1.elim
    | some ws =>
      simp only [hs] at h1
      obtain ⟨vs, q, rr⟩ := R1.seq e1 hs
      exact ⟨_, _, rfl, .inr q, fin rr h1⟩
  | _ => exact h1.elim
/-- a text, a number of the module -/
theorem e_gstr {x v : Str} (hm : ∃ tk, m.mg x = some (.str v tk)) (hg : sc.names.lookup x = some .globalImplicit := by rfl) (hd : (x == ("__debug__" : Str)) = false := by decide) : SE m T k c t sc N ow (.Name x pos) (fun _ => ret (.str v)) := by
  obtain ⟨tk, hm⟩ := hm
  exact e_glob (v := .str v) hm ⟨tk, rfl⟩ (fun _ _ => .str v) hg hd
theorem e_gint {x : Str} {v : Int} (hm : ∃ tk, m.mg x = some (.int v tk)) (hg : sc.names.lookup x = some .globalImplicit := by rfl) (hd : (x == ("__debug__" : Str)) = false := by decide) : SE m T k c t sc N ow (.Name x pos) (fun _ => ret (.int v)) := by
  obtain ⟨tk, hm⟩ := hm
  exact e_glob (v := .int v) hm ⟨tk, rfl⟩ (fun _ _ => .int v) hg hd
/-- isinstance(e, C) -/
def isi1M (cc : Nat) (w : W) : M W := fun S => if clsOf S w = some (true, cc) then .ok (.bl true) S else .bad
theorem e_isiS {x : Str} (J : IsiS m T cc) (hx : m.mg x = some (.ref (T.cls cc))) (hm : m.mg "isinstance" = none) (ho : SE m T k c t sc N ow o fo) (hg : sc.names.lookup x = some .globalImplicit := by rfl) (hgi : sc.names.lookup ("isinstance" : Str) = some .globalImplicit := by rfl) (hd : (x == ("__debug__" : Str)) = false := by decide)
    (h1 : ∀ env, starEach [o, .Name x p2] env = (false, eval o env) :: starEach [.Name x p2] env := by intro _; rfl) :
    SE m T k c t sc N ow (.Call (.Name "isinstance" p) [o, .Name x p2] [] pos) (fun s => bd (fo s) (isi1M cc)) := by
  have h := e_blt (pos := pos) (p := p) (n_isiS J) hm (a_cons ho (a_cons (e_cls (pos := p2) hx hg hd) a_nil) h1) (by decide +kernel) hgi (by decide) (by decide) h1
  have e : (fun s => bd (fo s) (isi1M cc)) = fun s => bd (bd (fo s) fun x => bd (bd ((fun _ => ret (W.adr (T.cls cc))) s) fun x => bd ((fun _ => ret []) s) fun xs => ret (x :: xs)) fun xs => ret (x :: xs)) (isiSM cc (T.cls cc)) := by
    funext s S
    simp only [bd, ret, isiSM, isi1M]
    cases fo s S <;> simp
  rw [e]
  exact h
theorem env_sc {X : Cx} (g : Good m k c t sc N ow X) : X.env = { X.env with scope := sc } := by rw [← g.hsc]
theorem h_lt : ∀ X, Good m k c t sc N ow X → ∀ E, OpR X (compareOp .Lt) (r2 T m.K pyLt E) := fun X g E pins s σ H x y v u Q I rx ry ⟨ad, S, w, z, R, rw', rz, h⟩ => by
  unfold pyLt at h
  split at h
  · cases rw'; cases rz
    exact op_lt pins s σ H _ _ v u Q I rx ry ⟨_, _, rfl, rfl, run_ok R (.bl _) h⟩
  · exact h.elim
theorem h_le : ∀ X, Good m k c t sc N ow X → ∀ E, OpR X (compareOp .LtE) (r2 T m.K pyLe E) := fun X g E pins s σ H x y v u Q I rx ry ⟨ad, S, w, z, R, rw', rz, h⟩ => by
  unfold pyLe at h
  split at h
  · cases rw'; cases rz
    exact op_le pins s σ H _ _ v u Q I rx ry ⟨_, _, rfl, rfl, run_ok R (.bl _) h⟩
  · exact h.elim
/-- the names of a tuple target, decided -/
def namesC (sc : Scope) (N ow : List Str) (xs : List Str) (is : List Nat) : Bool :=
  xs.length == is.length && (xs.zip is).all fun p => decide (N[p.2]? = some p.1) && (decide (sc.names.lookup p.1 = some .local) || (decide (sc.names.lookup p.1 = some .cell) && decide (p.1 ∈ ow)))
theorem names_at {xs : List Str} {is : List Nat} (h : namesC sc N ow xs is = true) : NamesAt sc N ow xs is := by
  unfold namesC at h
  rw [Bool.and_eq_true] at h
  have hl : xs.length = is.length := by simpa using h.1
  refine ⟨hl, fun j x i a b => ?_⟩
  have hm : (x, i) ∈ xs.zip is := by
    refine List.mem_iff_getElem?.mpr ⟨j, ?_⟩
    rw [List.getElem?_zip_eq_some]
    exact ⟨a, b⟩
  have q := List.all_eq_true.mp h.2 _ hm
  simp only [Bool.and_eq_true, Bool.or_eq_true, decide_eq_true_eq] at q
  refine ⟨q.1, ?_⟩
  rcases q.2 with z | z
  · exact .inl z
  · exact .inr z
end
end RP

/-! RpO: plain laws of the monad, for reading the functions of the defs. -/
namespace RP
open PySem L2
theorem fldM_calm (sl : Bool) (cc j : Nat) (w : W) (S : Sto) (x : Exn) (S' : Sto) : fldM sl cc j w S ≠ .ex x S' := by
  unfold fldM
  intro h
  split at h
  · split at h
    · split at h
      · split at h <;> cases h
      · cases h
    · split at h
      · split at h <;> cases h
      · cases h
    · cases h
  · cases h
theorem ixM_calm (w y : W) (S : Sto) (x : Exn) (S' : Sto) : ixM w y S ≠ .ex x S' := by
  unfold ixM
  intro h
  split at h
  · split at h <;> cases h
  · split at h
    · split at h <;> cases h
    · cases h
  · split at h
    · split at h <;> cases h
    · cases h
  · cases h
/-! ### loops by their items -/
theorem forM_ind {v : View} {g : W → Slots → M Slots} {body : Slots → M Fl} {ws : List W} (P : Nat → Slots → Sto → Prop) (hv : ∀ n sl S, P n sl S → v S = some ws)
    (step : ∀ n w sl S, ws[n]? = some w → P n sl S → ∃ sl1 S1 sl2 S2, g w sl S = .ok sl1 S1 ∧ (body sl1 S1 = .ok (.nx sl2) S2 ∨ body sl1 S1 = .ok (.ct sl2) S2) ∧ P (n + 1) sl2 S2) :
    ∀ (f n : Nat) (sl : Slots) (S : Sto), n + f = ws.length + 1 → n ≤ ws.length → P n sl S → ∃ sl' S', forM v g body f n sl S = .ok (.nx sl') S' ∧ P ws.length sl' S' := by
  intro f
  induction f with
  | zero =>
    intro n sl S hn hn2 h
    omega
  | succ f ih =>
    intro n sl S hn hn2 h
    unfold forM
    rw [hv n sl S h]
    by_cases hl : n < ws.length
    · have hw : ws[n]? = some ws[n] := List.getElem?_eq_getElem hl
      obtain ⟨sl1, S1, sl2, S2, e1, e2, h2⟩ := step n _ sl S hw h
      simp only [hw, e1]
      rcases e2 with e2 | e2
      · simp only [e2]; exact ih (n + 1) sl2 S2 (by omega) hl h2
      · simp only [e2]; exact ih (n + 1) sl2 S2 (by omega) hl h2
    · have hw : ws[n]? = none := List.getElem?_eq_none (by omega)
      simp only [hw]
      have : n = ws.length := by omega
      subst this
      exact ⟨sl, S, rfl, h⟩
theorem forV_ind {v : View} {g : W → Slots → M Slots} {body : Slots → M Fl} {ws : List W} {sl : Slots} {S : Sto} (P : Nat → Slots → Sto → Prop) (h0 : P 0 sl S) (hv : ∀ n sl S, P n sl S → v S = some ws)
    (step : ∀ n w sl S, ws[n]? = some w → P n sl S → ∃ sl1 S1 sl2 S2, g w sl S = .ok sl1 S1 ∧ (body sl1 S1 = .ok (.nx sl2) S2 ∨ body sl1 S1 = .ok (.ct sl2) S2) ∧ P (n + 1) sl2 S2) :
    ∃ sl' S', forV v g body sl S = .ok (.nx sl') S' ∧ P ws.length sl' S' := by
  unfold forV
  rw [hv 0 sl S h0]
  exact forM_ind P hv step _ 0 sl S (by omega) (Nat.zero_le _) h0
theorem lcM_ind {v : View} {g : W → Slots → M Slots} {test : Slots → M Bool} {elt : Slots → M W} {sl0 : Slots} {ws : List W} (P : Nat → List W → Sto → Prop) (hv : ∀ n acc S, P n acc S → v S = some ws)
    (step : ∀ n w acc S, ws[n]? = some w → P n acc S → ∃ sl1 S1, g w sl0 S = .ok sl1 S1 ∧ ((∃ S2, test sl1 S1 = .ok false S2 ∧ P (n + 1) acc S2) ∨ ∃ S2 y S3, test sl1 S1 = .ok true S2 ∧ elt sl1 S2 = .ok y S3 ∧ acc.length < sizeLine ∧ P (n + 1) (acc ++ [y]) S3)) :
    ∀ (f n : Nat) (acc : List W) (S : Sto), n + f = ws.length + 1 → n ≤ ws.length → P n acc S → ∃ acc' S', lcM v g test elt sl0 f n acc S = .ok acc' S' ∧ P ws.length acc' S' := by
  intro f
  induction f with
  | zero =>
    intro n acc S hn hn2 h
    omega
  | succ f ih =>
    intro n acc S hn hn2 h
    unfold lcM
    rw [hv n acc S h]
    by_cases hl : n < ws.length
    · have hw : ws[n]? = some ws[n] := List.getElem?_eq_getElem hl
      obtain ⟨sl1, S1, e1, e2⟩ := step n _ acc S hw h
      simp only [hw, e1]
      rcases e2 with ⟨S2, e2, h2⟩ | ⟨S2, y, S3, e2, e3, hz, h2⟩
      · simp only [e2]; exact ih (n + 1) acc S2 (by omega) hl h2
      · simp only [e2, e3, hz, if_true]; exact ih (n + 1) _ S3 (by omega) hl h2
    · have hw : ws[n]? = none := List.getElem?_eq_none (by omega)
      simp only [hw]
      have : n = ws.length := by omega
      subst this
      exact ⟨acc, S, rfl, h⟩
theorem lcV_ind {v : View} {g : W → Slots → M Slots} {test : Slots → M Bool} {elt : Slots → M W} {sl0 : Slots} {ws : List W} {S : Sto} (P : Nat → List W → Sto → Prop) (h0 : P 0 [] S) (hv : ∀ n acc S, P n acc S → v S = some ws)
    (step : ∀ n w acc S, ws[n]? = some w → P n acc S → ∃ sl1 S1, g w sl0 S = .ok sl1 S1 ∧ ((∃ S2, test sl1 S1 = .ok false S2 ∧ P (n + 1) acc S2) ∨ ∃ S2 y S3, test sl1 S1 = .ok true S2 ∧ elt sl1 S2 = .ok y S3 ∧ acc.length < sizeLine ∧ P (n + 1) (acc ++ [y]) S3)) :
    ∃ acc S', lcV v g test elt sl0 S = .ok (.ref S'.length) (S' ++ [.lst acc]) ∧ P ws.length acc S' := by
  unfold lcV
  rw [hv 0 [] S h0]
  obtain ⟨acc, S', e, h⟩ := lcM_ind P hv step (ws.length + 1) 0 [] S (by omega) (Nat.zero_le _) h0
  exact ⟨acc, S', by simp only [e], h⟩
/-- a comprehension that changes nothing: the items' values -/
theorem lcV_map {v : View} {g : W → Slots → M Slots} {elt : Slots → M W} {sl0 : Slots} {ws : List W} {S : Sto} (F : W → W) (hv : v S = some ws) (hz : ws.length ≤ sizeLine)
    (h : ∀ w ∈ ws, ∃ sl1, g w sl0 S = .ok sl1 S ∧ elt sl1 S = .ok (F w) S) : lcV v g (fun _ => ret true) elt sl0 S = .ok (.ref S.length) (S ++ [.lst (ws.map F)]) := by
  obtain ⟨acc, S', e, h1, h2⟩ := lcV_ind (S := S) (v := v) (g := g) (test := fun _ => ret true) (elt := elt) (sl0 := sl0) (ws := ws) (fun n acc S' => S' = S ∧ acc = (ws.take n).map F) ⟨rfl, rfl⟩ (fun n acc S' h => by rw [h.1]; exact hv) (fun n w acc S' hw h' => by
    obtain ⟨rfl, rfl⟩ := h'
    obtain ⟨sl1, e1, e2⟩ := h w (List.mem_of_getElem? hw)
    have hn := (List.getElem?_eq_some_iff.mp hw).1
    refine ⟨sl1, S', e1, .inr ⟨S', F w, S', rfl, e2, ?_, rfl, ?_⟩⟩
    · rw [List.length_map, List.length_take]
      omega
    · rw [List.take_add_one, hw]
      simp)
  rw [e, h1, h2, List.take_length]
/-- .. with a test -/
theorem lcV_filter {v : View} {g : W → Slots → M Slots} {test : Slots → M Bool} {elt : Slots → M W} {sl0 : Slots} {ws : List W} {S : Sto} (p : W → Bool) (F : W → W) (hv : v S = some ws) (hz : ws.length ≤ sizeLine)
    (h : ∀ w ∈ ws, ∃ sl1, g w sl0 S = .ok sl1 S ∧ test sl1 S = .ok (p w) S ∧ (p w = true → elt sl1 S = .ok (F w) S)) : lcV v g test elt sl0 S = .ok (.ref S.length) (S ++ [.lst ((ws.filter p).map F)]) := by
  obtain ⟨acc, S', e, h1, h2⟩ := lcV_ind (S := S) (v := v) (g := g) (test := test) (elt := elt) (sl0 := sl0) (ws := ws) (fun n acc S' => S' = S ∧ acc = ((ws.take n).filter p).map F) ⟨rfl, rfl⟩ (fun n acc S' h => by rw [h.1]; exact hv) (fun n w acc S' hw h' => by
    obtain ⟨rfl, rfl⟩ := h'
    obtain ⟨sl1, e1, e2, e3⟩ := h w (List.mem_of_getElem? hw)
    have hn := (List.getElem?_eq_some_iff.mp hw).1
    refine ⟨sl1, S', e1, ?_⟩
    cases hp : p w with
    | false =>
      refine .inl ⟨S', by rw [e2, hp], rfl, ?_⟩
      rw [List.take_add_one, hw]
      simp [hp]
    | true =>
      refine .inr ⟨S', F w, S', by rw [e2, hp], e3 hp, ?_, rfl, ?_⟩
      · have := List.length_filter_le p (ws.take n)
        rw [List.length_map]
        rw [List.length_take] at this
        omega
      · rw [List.take_add_one, hw]
        simp [hp])
  rw [e, h1, h2, List.take_length]
end RP

/-! RpP: equations for simp. -/
namespace RP
open PySem L2
section
variable {α β : Type} {S : Sto}
theorem bd_d (m : M α) (k : α → M β) : bd m k S = (match m S with | .ok a S' => k a S' | .ex x S' => .ex x S' | .bad => .bad) := rfl
theorem ret_d (a : α) : RP.ret a S = .ok a S := rfl
theorem stuck_d : (stuck : M α) S = .bad := rfl
theorem exS_d (sl : Slots) (m : M W) (k : W → M Fl) : exS sl m k S = (match m S with | .ok w S' => k w S' | .ex x S' => .ok (.xx x sl) S' | .bad => .bad) := rfl
theorem exT_d (sl : Slots) (m : M Bool) (k : Bool → M Fl) : exT sl m k S = (match m S with | .ok w S' => k w S' | .ex x S' => .ok (.xx x sl) S' | .bad => .bad) := rfl
theorem exA_d (sl : Slots) (m : M (List W)) (k : List W → M Fl) : exA sl m k S = (match m S with | .ok w S' => k w S' | .ex x S' => .ok (.xx x sl) S' | .bad => .bad) := rfl
theorem exI_d (sl : Slots) (m : M View) (k : View → M Fl) : exI sl m k S = (match m S with | .ok w S' => k w S' | .ex x S' => .ok (.xx x sl) S' | .bad => .bad) := rfl
theorem bdI_d (m : M View) (k : View → M W) : bdI m k S = (match m S with | .ok w S' => k w S' | .ex x S' => .ex x S' | .bad => .bad) := rfl
theorem bdO_d (m : M (Option Int)) (k : Option Int → M W) : bdO m k S = (match m S with | .ok w S' => k w S' | .ex x S' => .ex x S' | .bad => .bad) := rfl
theorem seqM_d (m : M Fl) (k : Slots → M Fl) : seqM m k S = (match m S with | .ok (.nx sl) S' => k sl S' | r => r) := rfl
theorem asgM_d (g : M Slots) : asgM g S = (match g S with | .ok sl S' => .ok (.nx sl) S' | _ => .bad) := rfl
theorem andW_d (x y : M W) : andW x y S = (match x S with | .ok (.bl true) S' => y S' | .ok (.bl false) S' => .ok (.bl false) S' | .ok _ _ => .bad | .ex x S' => .ex x S' | .bad => .bad) := by
  unfold andW bd
  cases x S with
  | ok w S' =>
    cases w with
    | bl b => cases b <;> rfl
    | _ => rfl
  | ex x S' => rfl
  | bad => rfl
theorem orW_d (x y : M W) : orW x y S = (match x S with | .ok (.bl true) S' => .ok (.bl true) S' | .ok (.bl false) S' => y S' | .ok _ _ => .bad | .ex x S' => .ex x S' | .bad => .bad) := by
  unfold orW bd
  cases x S with
  | ok w S' =>
    cases w with
    | bl b => cases b <;> rfl
    | _ => rfl
  | ex x S' => rfl
  | bad => rfl
theorem andT_d (x y : M Bool) : andT x y S = (match x S with | .ok true S' => y S' | .ok false S' => .ok false S' | .ex x S' => .ex x S' | .bad => .bad) := by
  unfold andT bd
  cases x S with
  | ok w S' => cases w <;> rfl
  | ex x S' => rfl
  | bad => rfl
theorem orT_d (x y : M Bool) : orT x y S = (match x S with | .ok true S' => .ok true S' | .ok false S' => y S' | .ex x S' => .ex x S' | .bad => .bad) := by
  unfold orT bd
  cases x S with
  | ok w S' => cases w <;> rfl
  | ex x S' => rfl
  | bad => rfl
theorem iteM_d (x : M Bool) (y z : M α) : iteM x y z S = (match x S with | .ok true S' => y S' | .ok false S' => z S' | .ex x S' => .ex x S' | .bad => .bad) := by
  unfold iteM bd
  cases x S with
  | ok w S' => cases w <;> rfl
  | ex x S' => rfl
  | bad => rfl
theorem ngW_b (b : Bool) : ngW (.bl b) S = .ok (.bl (!b)) S := rfl
theorem blM_b (b : Bool) : blM (.bl b) S = .ok b S := rfl
theorem truM_b (b : Bool) : truM (.bl b) S = .ok b S := rfl
theorem getSl_0 (w : W) (sl : Slots) : getSl 0 (some w :: sl) S = .ok w S := rfl
theorem getSl_s (i : Nat) (w : Option W) (sl : Slots) : getSl (i + 1) (w :: sl) S = getSl i sl S := rfl
theorem lstM_d (ws : List W) : lstM ws S = if ws.length ≤ sizeLine then .ok (.ref S.length) (S ++ [.lst ws]) else .bad := rfl
theorem tupM_d (ws : List W) : tupM ws S = if ws.length ≤ sizeLine then .ok (.tup ws) S else .bad := rfl
theorem chainM_d (g1 g2 : W → W → M W) (fa fb fd : M W) : chainM g1 g2 fa fb fd S = (match fa S with | .ok x S1 => (match fb S1 with | .ok y S2 => (match g1 x y S2 with | .ok (.bl true) S3 => (match fd S3 with | .ok w S4 => g2 y w S4 | .ex x S' => .ex x S' | .bad => .bad) | .ok (.bl false) S3 => .ok (.bl false) S3 | .ok _ _ => .bad | .ex x S' => .ex x S' | .bad => .bad) | .ex x S' => .ex x S' | .bad => .bad) | .ex x S' => .ex x S' | .bad => .bad) := by
  unfold chainM bd
  cases fa S with
  | ok x S1 =>
    simp only []
    cases fb S1 with
    | ok y S2 =>
      simp only []
      cases g1 x y S2 with
      | ok z S3 =>
        cases z with
        | bl b => cases b with
          | true => simp only []; cases fd S3 <;> rfl
          | false => rfl
        | _ => rfl
      | ex x S' => rfl
      | bad => rfl
    | ex x S' => rfl
    | bad => rfl
  | ex x S' => rfl
  | bad => rfl
theorem add_ii (i j : Int) : pyAdd (.int i) (.int j) S = .ok (.int (i + j)) S := rfl
theorem add_ss (a b : Str) : pyAdd (.str a) (.str b) S = if a.length + b.length ≤ sizeLine then .ok (.str (a ++ b)) S else .bad := rfl
theorem sub_ii (i j : Int) : pySub (.int i) (.int j) S = .ok (.int (i - j)) S := rfl
theorem mul_ii (i j : Int) : pyMul (.int i) (.int j) S = if small64 i || small64 j then .ok (.int (i * j)) S else .bad := rfl
theorem fdiv_ii (i j : Int) : pyFdiv (.int i) (.int j) S = if 0 < j ∧ j < 1152921504606846976 then .ok (.int (i / j)) S else .bad := rfl
theorem mod_ii (i j : Int) : pyMod (.int i) (.int j) S = if 0 < j then .ok (.int (i % j)) S else .bad := rfl
theorem pow_ii (i j : Int) : pyPow (.int i) (.int j) S = if 0 ≤ j ∧ j ≤ 1000000 ∧ i.natAbs < 2 ^ 64 then .ok (.int (i ^ j.toNat)) S else .bad := rfl
theorem lt_ii (i j : Int) : pyLt (.int i) (.int j) S = .ok (.bl (decide (i < j))) S := rfl
theorem le_ii (i j : Int) : pyLe (.int i) (.int j) S = .ok (.bl (decide (i ≤ j))) S := rfl
theorem gt_ii (i j : Int) : pyGt (.int i) (.int j) S = .ok (.bl (decide (j < i))) S := rfl
theorem ge_ii (i j : Int) : pyGe (.int i) (.int j) S = .ok (.bl (decide (j ≤ i))) S := rfl
theorem eq_ii (i j : Int) : pyEq (.int i) (.int j) S = .ok (.bl (decide (i = j))) S := rfl
theorem ne_ii (i j : Int) : pyNe (.int i) (.int j) S = .ok (.bl (!decide (i = j))) S := rfl
theorem eq_ss (i j : Str) : pyEq (.str i) (.str j) S = .ok (.bl (decide (i = j))) S := rfl
theorem ne_ss (i j : Str) : pyNe (.str i) (.str j) S = .ok (.bl (!decide (i = j))) S := rfl
theorem intM_i (i : Int) : intM [.int i] S = .ok (.int i) S := rfl
theorem lenM_s (x : Str) : lenM [.str x] S = if x.length ≤ sizeLine then .ok (.int x.length) S else .bad := rfl
theorem lenM_t (xs : List W) : lenM [.tup xs] S = .ok (.int xs.length) S := rfl
theorem lenM_r {i : Nat} {xs : List W} (h : seqOf S i = some xs) : lenM [.ref i] S = .ok (.int xs.length) S := by simp only [lenM, h]
theorem ixM_t (xs : List W) (i : Int) : ixM (.tup xs) (.int i) S = (match atI xs i with | some v => .ok v S | none => .bad) := rfl
theorem ixM_r {r : Nat} {xs : List W} (i : Int) (h : seqOf S r = some xs) : ixM (.ref r) (.int i) S = (match atI xs i with | some v => .ok v S | none => .bad) := by simp only [ixM, h] <;> (cases atI xs i <;> rfl)
theorem ixM_s (z : Str) (i : Int) : ixM (.str z) (.int i) S = (match atI z.cps.toList i with | some cp => if z.length ≤ sizeLine then .ok (.str ⟨#[cp]⟩) S else .bad | none => .bad) := rfl
theorem seq_lst {i : Nat} {xs : List W} (h : S[i]? = some (.lst xs)) : seqOf S i = some xs := by simp only [seqOf, h]
theorem seq_scr {i : Nat} {ns : List Int} (h : S[i]? = some (.scr ns)) : seqOf S i = some (ns.map W.int) := by simp only [seqOf, h]
theorem atI_n {xs : List α} {i : Nat} {v : α} (h : xs[i]? = some v) : atI xs (i : Int) = some v := atI_nat h
theorem seqV_s (x : Str) : seqV (.str x) S = .ok (fun _ => some (x.cps.toList.map fun n => W.str ⟨#[n]⟩)) S := rfl
theorem seqV_t (xs : List W) : seqV (.tup xs) S = .ok (fun _ => some xs) S := rfl
theorem seqV_r {i : Nat} {xs : List W} (h : seqOf S i = some xs) : seqV (.ref i) S = .ok (fun S => seqOf S i) S := by simp only [seqV, h]
theorem rng1_i (n : Int) : range1V [.int n] S = if -(2 ^ 62) ≤ n ∧ n < 2 ^ 62 then .ok (fun _ => some ((List.range n.toNat).map fun (i : Nat) => W.int i)) S else .bad := rfl
theorem allM_r {i : Nat} {xs : List W} {bs : List Bool} (h : seqOf S i = some xs) (hb : bools xs = some bs) : allM [.ref i] S = .ok (.bl (bs.all id)) S := by simp only [allM, h, hb]
theorem in_1 (c : Nat) (b : Str) : pyIn (.str ⟨#[c]⟩) (.str b) S = .ok (.bl (decide (c ∈ b.cps.toList))) S := by
  show Res.ok (W.bl (inStr ⟨#[c]⟩ b)) S = _
  unfold inStr
  rw [PySem.StrLaws.found_one]
theorem bools_map {β : Type} (f : β → Bool) : ∀ l : List β, bools (l.map fun x => W.bl (f x)) = some (l.map f)
  | [] => rfl
  | x :: l => by simp only [List.map_cons, bools, bools_map f l]; rfl
theorem textsOf_map {β : Type} (f : β → Str) : ∀ l : List β, textsOf (l.map fun x => W.str (f x)) = some (l.map f)
  | [] => rfl
  | x :: l => by simp only [List.map_cons, textsOf, textsOf_map f l]; rfl
theorem joinM_r {a : Str} {i : Nat} {xs : List W} {ys : List Str} (h : seqOf S i = some xs) (hy : textsOf xs = some ys) (hz : (ys.map (·.length)).sum + ys.length * a.length ≤ 16777216) : joinM (.str a) [.ref i] S = .ok (.str (Txt.join a ys)) S := by
  simp only [joinM, h, hy, hz, if_true]
theorem fld_s {i cc j : Nat} {fs : List W} {v : W} (h : S[i]? = some (.slo cc fs)) (hv : fs[j]? = some v) : fldM true cc j (.ref i) S = .ok v S := by simp only [fldM, h, hv, true_and, if_true]
theorem fld_i {i cc j : Nat} {fs : List W} {v : W} (h : S[i]? = some (.ins cc fs)) (hv : fs[j]? = some v) : fldM false cc j (.ref i) S = .ok v S := by simp only [fldM, h, hv, true_and, if_true]
theorem setFld_s {i cc j : Nat} {fs fs' : List W} {v : W} (h : S[i]? = some (.slo cc fs)) (hv : putAt j v fs = some fs') : setFldM true cc j (.ref i) v S = .ok () (S.set i (.slo cc fs')) := by simp only [setFldM, h, hv, true_and, if_true]
theorem setFld_i {i cc j : Nat} {fs fs' : List W} {v : W} (h : S[i]? = some (.ins cc fs)) (hv : putAt j v fs = some fs') : setFldM false cc j (.ref i) v S = .ok () (S.set i (.ins cc fs')) := by simp only [setFldM, h, hv, true_and, if_true]
theorem cls_s {i cc : Nat} {fs : List W} (h : S[i]? = some (.slo cc fs)) : clsOf S (.ref i) = some (true, cc) := by simp only [clsOf, h]
theorem cls_i {i cc : Nat} {fs : List W} (h : S[i]? = some (.ins cc fs)) : clsOf S (.ref i) = some (false, cc) := by simp only [clsOf, h]
theorem methM_d {sl : Bool} {cc : Nat} (fo : M W) (fs : M (List W)) (g : List W → M W) : methM sl cc fo fs g S = (match fo S with | .ok w S' => if clsOf S' w = some (sl, cc) then bd fs (fun ws => g (w :: ws)) S' else .bad | .ex x S' => .ex x S' | .bad => .bad) := by
  unfold methM bd
  cases fo S <;> rfl
theorem propM_d {sl : Bool} {cc : Nat} (g : List W → M W) (w : W) : propM sl cc g w S = if clsOf S w = some (sl, cc) then g [w] S else .bad := rfl
theorem bmM_d (ty : String) (fo : M W) (fs : M (List W)) (g : W → List W → M W) : bmM ty fo fs g S = (match fo S with | .ok w S' => if tyN S' w = some ty then bd fs (fun ws => g w ws) S' else .bad | .ex x S' => .ex x S' | .bad => .bad) := by
  unfold bmM bd
  cases fo S <;> rfl
theorem tyN_lst {i : Nat} {xs : List W} (h : S[i]? = some (.lst xs)) : tyN S (.ref i) = some "list" := by simp only [tyN, h]
theorem app_l {i : Nat} {xs : List W} {y : W} (h : S[i]? = some (.lst xs)) (hz : xs.length < sizeLine) : appendM (.ref i) [y] S = .ok .non (S.set i (.lst (xs ++ [y]))) := by simp only [appendM, h, hz, if_true]
theorem starM_r {i : Nat} {xs : List W} (h : seqOf S i = some xs) : starM (.ref i) S = .ok xs S := by simp only [starM, h]
theorem add_tt (xs ys : List W) : pyAdd (.tup xs) (.tup ys) S = if xs.length + ys.length ≤ sizeLine then .ok (.tup (xs ++ ys)) S else .bad := rfl
theorem add_rr {i j : Nat} {xs ys : List W} (h : S[i]? = some (.lst xs)) (h2 : S[j]? = some (.lst ys)) (hz : xs.length + ys.length ≤ sizeLine) : pyAdd (.ref i) (.ref j) S = .ok (.ref S.length) (S ++ [.lst (xs ++ ys)]) := by simp only [pyAdd, h, h2, hz, if_true]
theorem partM_i (i : Int) : partM (.int i) S = .ok (some i) S := rfl
theorem setIx_l {r : Nat} {xs : List W} {n : Int} {j : Nat} {v : W} (h : S[r]? = some (.lst xs)) (hj : ixN xs.length n = some j) : setIxM (.ref r) (.int n) v S = .ok () (S.set r (.lst (xs.set j v))) := by simp only [setIxM, h, hj]
theorem slice_r {i : Nat} {xs : List W} (lo hi : Option Int) (h : seqOf S i = some xs) : sliceM (.ref i) lo hi S = .ok (.ref S.length) (S ++ [.lst (cutL xs lo hi)]) := by simp only [sliceM, h]
theorem makeM_d {sl : Bool} {cc : Nat} (g : List W → M W) (ws : List W) : makeM sl cc g ws S = (match g (.ref S.length :: ws) (S ++ [if sl then .slo cc [] else .ins cc []]) with | .ok .non S' => .ok (.ref S.length) S' | .ok _ _ => .bad | .ex x S' => .ex x S' | .bad => .bad) := rfl
end
theorem sizeLine_big : 4000000 ≤ sizeLine := by decide
theorem get_last {S : Sto} {o : Ob} : (S ++ [o])[S.length]? = some o := by simp
theorem get_app {S T : Sto} {i : Nat} {o : Ob} (h : S[i]? = some o) : (S ++ T)[i]? = some o := by
  rw [List.getElem?_append_left (List.getElem?_eq_some_iff.mp h).1]
  exact h
/-! ### what raises nothing -/
def CalmM {α : Type} (m : M α) : Prop := ∀ S x S', m S ≠ .ex x S'
theorem CalmM.bd {α β : Type} {m : M α} {k : α → M β} (h : CalmM m) (hk : ∀ a, CalmM (k a)) : CalmM (bd m k) := fun S x S' e => by
  unfold RP.bd at e
  split at e
  · exact hk _ _ _ _ e
  · rename_i q; exact h _ _ _ q
  · cases e
theorem CalmM.ret {α : Type} (a : α) : CalmM (RP.ret a) := fun S x S' e => by cases e
theorem CalmM.getSl (i : Nat) (sl : Slots) : CalmM (getSl i sl) := fun S x S' e => by
  unfold RP.getSl at e
  split at e <;> cases e
theorem CalmM.fld (sl : Bool) (cc j : Nat) (w : W) : CalmM (fldM sl cc j w) := fldM_calm sl cc j w
theorem CalmM.ix (w y : W) : CalmM (ixM w y) := ixM_calm w y
theorem CalmM.eq (w y : W) : CalmM (pyEq w y) := fun S x S' e => by
  unfold pyEq at e
  split at e <;> cases e
theorem CalmM.isi1 (cc : Nat) (w : W) : CalmM (isi1M cc w) := fun S x S' e => by
  unfold isi1M at e
  split at e <;> cases e
theorem CalmM.prop {sl : Bool} {cc : Nat} {g : List W → M W} (hg : Calm g) (w : W) : CalmM (propM sl cc g w) := fun S x S' e => by
  unfold propM at e
  split at e
  · exact hg _ _ _ _ e
  · cases e
theorem CalmM.tup (ws : List W) : CalmM (tupM ws) := fun S x S' e => by
  unfold tupM at e
  split at e <;> cases e
theorem CalmM.len (ws : List W) : CalmM (lenM ws) := fun S x S' e => by
  unfold lenM at e
  split at e
  · split at e <;> cases e
  · cases e
  · split at e <;> cases e
  · cases e
theorem CalmM.and {x y : M W} (hx : CalmM x) (hy : CalmM y) : CalmM (andW x y) := fun S z S' e => by
  rw [andW_d] at e
  split at e
  · exact hy _ _ _ e
  · cases e
  · cases e
  · rename_i q; exact hx _ _ _ q
  · cases e
theorem calm_ret1 {L n : Nat} {f : Slots → M W} (h : ∀ sl, CalmM (f sl)) : Calm (bodyM L n fun sl => exS sl (f sl) fun w => RP.ret (.rt w)) := fun ws S x S' e => by
  unfold bodyM at e
  split at e
  · simp only [exS_d, ret_d] at e
    cases q : f (ws.map some ++ List.replicate (L - ws.length) none) S with
    | ok w S1 => simp only [q] at e; cases e
    | ex y S1 => exact h _ _ _ _ q
    | bad => simp only [q] at e; cases e
  · cases e
end RP

/-! RpQ: what a run comes to, by parts. -/
namespace RP
open PySem L2
abbrev XQ := Exn → Sto → Prop
abbrev XS := Exn → Slots → Sto → Prop
def HoD {α : Type} (r : Res α) (Q : α → Sto → Prop) (E : XQ) : Prop := match r with
  | .ok a S => Q a S
  | .ex x S => E x S
  | .bad => False
def HoSD (r : Res Fl) (Q : Fl → Sto → Prop) (E : XS) : Prop := match r with
  | .ok (.xx x sl) S => E x sl S
  | .ok f S => Q f S
  | _ => False
/-- a run ends well, or as E says (a structure: nothing runs it by itself) -/
structure Ho {α : Type} (r : Res α) (Q : α → Sto → Prop) (E : XQ) : Prop where
  h : HoD r Q E
structure HoS (r : Res Fl) (Q : Fl → Sto → Prop) (E : XS) : Prop where
  h : HoSD r Q E
theorem hoD {α : Type} {r : Res α} {Q : α → Sto → Prop} {E : XQ} : Ho r Q E ↔ HoD r Q E := ⟨fun a => a.h, fun a => ⟨a⟩⟩
theorem hosD {r : Res Fl} {Q : Fl → Sto → Prop} {E : XS} : HoS r Q E ↔ HoSD r Q E := ⟨fun a => a.h, fun a => ⟨a⟩⟩
def noX : XQ := fun _ _ => False
/-- what follows a statement -/
def nxt (k : Slots → M Fl) (R : Fl → Sto → Prop) (F : XS) : Fl → Sto → Prop := fun f S' => match f with
  | .nx sl => HoS (k sl S') R F
  | f => R f S'
/-- how a def ends -/
def fin (Q : W → Sto → Prop) : Fl → Sto → Prop := fun f S' => match f with
  | .nx _ => Q .non S'
  | .rt w => Q w S'
  | _ => False
section
variable {α β : Type} {S : Sto} {Q : β → Sto → Prop} {R : Fl → Sto → Prop} {E : XQ} {F : XS}
theorem Ho.imp {r : Res α} {Q Q' : α → Sto → Prop} (h : Ho r Q E) (q : ∀ a S, Q a S → Q' a S) : Ho r Q' E := by
  obtain ⟨h⟩ := h
  cases r with
  | ok a S => exact ⟨q a S h⟩
  | ex x S => exact ⟨h⟩
  | bad => exact h.elim
theorem Ho.ex {r : Res α} {Q : α → Sto → Prop} (h : Ho r Q noX) : ∃ a S, r = .ok a S ∧ Q a S := by
  obtain ⟨h⟩ := h
  cases r with
  | ok a S => exact ⟨a, S, rfl, h⟩
  | ex x S => exact h.elim
  | bad => exact h.elim
theorem Ho.of {r : Res α} {Q : α → Sto → Prop} {a : α} {S : Sto} (e : r = .ok a S) (h : Q a S) : Ho r Q E := by rw [e]; exact ⟨h⟩
/-- a call that is known by its promise -/
theorem Ho.call {r : Res α} {Q Q' : α → Sto → Prop} (h : Ho r Q noX) (q : ∀ a S, Q a S → Q' a S) : Ho r Q' E := by
  obtain ⟨h⟩ := h
  cases r with
  | ok a S => exact ⟨q a S h⟩
  | ex x S => exact h.elim
  | bad => exact h.elim
theorem ho_bad : Ho (.bad : Res β) Q E ↔ False := ⟨fun h => h.h, fun h => h.elim⟩
theorem hos_bad : HoS .bad R F ↔ False := ⟨fun h => h.h, fun h => h.elim⟩
theorem ho_ok {a : β} : Ho (.ok a S) Q E ↔ Q a S := by simp only [hoD, hosD, HoD, HoSD, RP.ret]
theorem ho_ex {x : Exn} : Ho (.ex x S) Q E ↔ E x S := by simp only [hoD, hosD, HoD, HoSD, RP.ret]
theorem ho_ret {a : β} : Ho (RP.ret a S) Q E ↔ Q a S := by simp only [hoD, hosD, HoD, HoSD, RP.ret]
theorem ho_bd {m : M α} {k : α → M β} : Ho (bd m k S) Q E ↔ Ho (m S) (fun a S' => Ho (k a S') Q E) E := by
  unfold bd
  cases m S <;> simp only [hoD, hosD, HoD, HoSD, nxt, fin, noX]
theorem ho_bdI {m : M View} {k : View → M W} {Q : W → Sto → Prop} : Ho (bdI m k S) Q E ↔ Ho (m S) (fun a S' => Ho (k a S') Q E) E := by
  unfold bdI
  cases m S <;> simp only [hoD, hosD, HoD, HoSD, nxt, fin, noX]
theorem ho_bdO {m : M (Option Int)} {k : Option Int → M W} {Q : W → Sto → Prop} : Ho (bdO m k S) Q E ↔ Ho (m S) (fun a S' => Ho (k a S') Q E) E := by
  unfold bdO
  cases m S <;> simp only [hoD, hosD, HoD, HoSD, nxt, fin, noX]
theorem hos_nx {sl : Slots} : HoS (RP.ret (.nx sl) S) R F ↔ R (.nx sl) S := by simp only [hoD, hosD, HoD, HoSD, RP.ret]
theorem hos_rt {w : W} : HoS (RP.ret (.rt w) S) R F ↔ R (.rt w) S := by simp only [hoD, hosD, HoD, HoSD, RP.ret]
theorem hos_bk {sl : Slots} : HoS (RP.ret (.bk sl) S) R F ↔ R (.bk sl) S := by simp only [hoD, hosD, HoD, HoSD, RP.ret]
theorem hos_ct {sl : Slots} : HoS (RP.ret (.ct sl) S) R F ↔ R (.ct sl) S := by simp only [hoD, hosD, HoD, HoSD, RP.ret]
theorem hos_onx {sl : Slots} : HoS (.ok (.nx sl) S) R F ↔ R (.nx sl) S := by simp only [hoD, hosD, HoD, HoSD, RP.ret]
theorem hos_ort {w : W} : HoS (.ok (.rt w) S) R F ↔ R (.rt w) S := by simp only [hoD, hosD, HoD, HoSD, RP.ret]
theorem hos_exS {sl : Slots} {m : M W} {k : W → M Fl} : HoS (exS sl m k S) R F ↔ Ho (m S) (fun a S' => HoS (k a S') R F) fun x S' => F x sl S' := by
  unfold exS
  cases m S <;> simp only [hoD, hosD, HoD, HoSD, nxt, fin, noX]
theorem hos_exT {sl : Slots} {m : M Bool} {k : Bool → M Fl} : HoS (exT sl m k S) R F ↔ Ho (m S) (fun a S' => HoS (k a S') R F) fun x S' => F x sl S' := by
  unfold exT
  cases m S <;> simp only [hoD, hosD, HoD, HoSD, nxt, fin, noX]
theorem hos_exA {sl : Slots} {m : M (List W)} {k : List W → M Fl} : HoS (exA sl m k S) R F ↔ Ho (m S) (fun a S' => HoS (k a S') R F) fun x S' => F x sl S' := by
  unfold exA
  cases m S <;> simp only [hoD, hosD, HoD, HoSD, nxt, fin, noX]
theorem hos_exI {sl : Slots} {m : M View} {k : View → M Fl} : HoS (exI sl m k S) R F ↔ Ho (m S) (fun a S' => HoS (k a S') R F) fun x S' => F x sl S' := by
  unfold exI
  cases m S <;> simp only [hoD, hosD, HoD, HoSD, nxt, fin, noX]
theorem nxt_nx {k : Slots → M Fl} {sl : Slots} : nxt k R F (.nx sl) S ↔ HoS (k sl S) R F := Iff.rfl
theorem nxt_rt {k : Slots → M Fl} {w : W} : nxt k R F (.rt w) S ↔ R (.rt w) S := Iff.rfl
theorem nxt_bk {k : Slots → M Fl} {w : Slots} : nxt k R F (.bk w) S ↔ R (.bk w) S := Iff.rfl
theorem nxt_ct {k : Slots → M Fl} {w : Slots} : nxt k R F (.ct w) S ↔ R (.ct w) S := Iff.rfl
theorem hos_seq {m : M Fl} {k : Slots → M Fl} : HoS (seqM m k S) R F ↔ HoS (m S) (nxt k R F) F := by
  unfold seqM
  cases m S with
  | ok f S' => cases f <;> simp only [hoD, hosD, HoD, HoSD, nxt, fin, noX]
  | ex x S' => simp only [hoD, hosD, HoD, HoSD, nxt, fin, noX]
  | bad => simp only [hoD, hosD, HoD, HoSD, nxt, fin, noX]
theorem hos_asg {g : M Slots} : HoS (asgM g S) R F ↔ Ho (g S) (fun sl S' => R (.nx sl) S') noX := by
  unfold asgM
  cases g S <;> simp only [hoD, hosD, HoD, HoSD, nxt, fin, noX]
theorem fin_nx {Q : W → Sto → Prop} {sl : Slots} : fin Q (.nx sl) S ↔ Q .non S := Iff.rfl
theorem fin_rt {Q : W → Sto → Prop} {w : W} : fin Q (.rt w) S ↔ Q w S := Iff.rfl
theorem ho_body {L n : Nat} {fb : Slots → M Fl} {ws : List W} {Q : W → Sto → Prop} (hn : ws.length = n) :
    Ho (bodyM L n fb ws S) Q E ↔ HoS (fb (ws.map some ++ List.replicate (L - ws.length) none) S) (fin Q) fun x _ S' => E x S' := by
  unfold bodyM
  rw [if_pos hn]
  cases fb (ws.map some ++ List.replicate (L - ws.length) none) S with
  | ok f S' => cases f <;> simp only [hoD, hosD, HoD, HoSD, nxt, fin, noX]
  | ex x S' => simp only [hoD, hosD, HoD, HoSD, nxt, fin, noX]
  | bad => simp only [hoD, hosD, HoD, HoSD, nxt, fin, noX]
theorem ho_body1 {L : Nat} {fb : Slots → M Fl} {a : W} {Q : W → Sto → Prop} : Ho (bodyM L 1 fb [a] S) Q E ↔ HoS (fb (some a :: List.replicate (L - 1) none) S) (fin Q) fun x _ S' => E x S' := ho_body rfl
theorem ho_body2 {L : Nat} {fb : Slots → M Fl} {a b : W} {Q : W → Sto → Prop} : Ho (bodyM L 2 fb [a, b] S) Q E ↔ HoS (fb (some a :: some b :: List.replicate (L - 2) none) S) (fin Q) fun x _ S' => E x S' := ho_body rfl
theorem ho_body3 {L : Nat} {fb : Slots → M Fl} {a b c : W} {Q : W → Sto → Prop} : Ho (bodyM L 3 fb [a, b, c] S) Q E ↔ HoS (fb (some a :: some b :: some c :: List.replicate (L - 3) none) S) (fin Q) fun x _ S' => E x S' := ho_body rfl
theorem ho_body4 {L : Nat} {fb : Slots → M Fl} {a b c d : W} {Q : W → Sto → Prop} : Ho (bodyM L 4 fb [a, b, c, d] S) Q E ↔ HoS (fb (some a :: some b :: some c :: some d :: List.replicate (L - 4) none) S) (fin Q) fun x _ S' => E x S' := ho_body rfl
theorem ho_make {sl : Bool} {cc : Nat} {g : List W → M W} {ws : List W} {Q : W → Sto → Prop} (h : Ho (g (.ref S.length :: ws) (S ++ [if sl then .slo cc [] else .ins cc []])) (fun w S' => w = .non ∧ Q (.ref S.length) S') E) :
    Ho (makeM sl cc g ws S) Q E := by
  obtain ⟨h⟩ := h
  unfold makeM
  cases q : g (.ref S.length :: ws) (S ++ [if sl then .slo cc [] else .ins cc []]) with
  | ok w S' =>
    rw [q] at h
    obtain ⟨rfl, h⟩ := h
    exact ⟨h⟩
  | ex x S' => rw [q] at h; exact ⟨h⟩
  | bad => rw [q] at h; exact h.elim
theorem ho_meth {sl : Bool} {cc : Nat} {fo : M W} {fs : M (List W)} {g : List W → M W} {Q : W → Sto → Prop} : Ho (methM sl cc fo fs g S) Q E ↔ Ho (fo S) (fun w S' => clsOf S' w = some (sl, cc) ∧ Ho (fs S') (fun ws S2 => Ho (g (w :: ws) S2) Q E) E) E := by
  unfold methM
  rw [ho_bd]
  cases fo S with
  | ok w S' =>
    rw [ho_ok, ho_ok]
    by_cases h : clsOf S' w = some (sl, cc)
    · rw [if_pos h, ho_bd]
      exact ⟨fun q => ⟨h, q⟩, fun q => q.2⟩
    · rw [if_neg h]
      exact ⟨fun q => (hoD.mp q).elim, fun q => absurd q.1 h⟩
  | ex x S' => simp only [hoD, hosD, HoD, HoSD, nxt, fin, noX]
  | bad => simp only [hoD, hosD, HoD, HoSD, nxt, fin, noX]
theorem ho_bm {ty : String} {fo : M W} {fs : M (List W)} {g : W → List W → M W} {Q : W → Sto → Prop} : Ho (bmM ty fo fs g S) Q E ↔ Ho (fo S) (fun w S' => tyN S' w = some ty ∧ Ho (fs S') (fun ws S2 => Ho (g w ws S2) Q E) E) E := by
  unfold bmM
  rw [ho_bd]
  cases fo S with
  | ok w S' =>
    rw [ho_ok, ho_ok]
    by_cases h : tyN S' w = some ty
    · rw [if_pos h, ho_bd]
      exact ⟨fun q => ⟨h, q⟩, fun q => q.2⟩
    · rw [if_neg h]
      exact ⟨fun q => (hoD.mp q).elim, fun q => absurd q.1 h⟩
  | ex x S' => simp only [hoD, hosD, HoD, HoSD, nxt, fin, noX]
  | bad => simp only [hoD, hosD, HoD, HoSD, nxt, fin, noX]
theorem ho_prop {sl : Bool} {cc : Nat} {g : List W → M W} {w : W} {Q : W → Sto → Prop} : Ho (propM sl cc g w S) Q E ↔ clsOf S w = some (sl, cc) ∧ Ho (g [w] S) Q E := by
  unfold propM
  by_cases h : clsOf S w = some (sl, cc)
  · rw [if_pos h]; exact ⟨fun q => ⟨h, q⟩, fun q => q.2⟩
  · rw [if_neg h]; exact ⟨fun q => (hoD.mp q).elim, fun q => absurd q.1 h⟩
theorem ho_if {p : Prop} [Decidable p] {r : Res β} : Ho (if p then r else .bad) Q E ↔ p ∧ Ho r Q E := by
  by_cases h : p
  · rw [if_pos h]; exact ⟨fun q => ⟨h, q⟩, fun q => q.2⟩
  · rw [if_neg h]; exact ⟨fun q => (hoD.mp q).elim, fun q => absurd q.1 h⟩
theorem hos_if {p : Prop} [Decidable p] {r : Res Fl} : HoS (if p then r else .bad) R F ↔ p ∧ HoS r R F := by
  by_cases h : p
  · rw [if_pos h]; exact ⟨fun q => ⟨h, q⟩, fun q => q.2⟩
  · rw [if_neg h]; exact ⟨fun q => (hosD.mp q).elim, fun q => absurd q.1 h⟩
/-- the tests -/
theorem hos_iteM {x : M Bool} {y z : M Fl} {sl : Slots} : True := trivial
theorem ho_and {x y : M W} {Q : W → Sto → Prop} : Ho (andW x y S) Q E ↔ Ho (x S) (fun w S' => match w with | .bl true => Ho (y S') Q E | .bl false => Q (.bl false) S' | _ => False) E := by
  rw [andW_d]
  cases x S with
  | ok w S' =>
    cases w with
    | bl b => cases b <;> simp only [hoD, hosD, HoD, HoSD, nxt, fin, noX]
    | _ => simp only [hoD, hosD, HoD, HoSD, nxt, fin, noX]
  | ex x S' => simp only [hoD, hosD, HoD, HoSD, nxt, fin, noX]
  | bad => simp only [hoD, hosD, HoD, HoSD, nxt, fin, noX]
theorem ho_or {x y : M W} {Q : W → Sto → Prop} : Ho (orW x y S) Q E ↔ Ho (x S) (fun w S' => match w with | .bl true => Q (.bl true) S' | .bl false => Ho (y S') Q E | _ => False) E := by
  rw [orW_d]
  cases x S with
  | ok w S' =>
    cases w with
    | bl b => cases b <;> simp only [hoD, hosD, HoD, HoSD, nxt, fin, noX]
    | _ => simp only [hoD, hosD, HoD, HoSD, nxt, fin, noX]
  | ex x S' => simp only [hoD, hosD, HoD, HoSD, nxt, fin, noX]
  | bad => simp only [hoD, hosD, HoD, HoSD, nxt, fin, noX]
theorem ho_andT {x y : M Bool} {Q : Bool → Sto → Prop} : Ho (andT x y S) Q E ↔ Ho (x S) (fun w S' => match w with | true => Ho (y S') Q E | false => Q false S') E := by
  rw [andT_d]
  cases x S with
  | ok w S' => cases w <;> simp only [hoD, hosD, HoD, HoSD, nxt, fin, noX]
  | ex x S' => simp only [hoD, hosD, HoD, HoSD, nxt, fin, noX]
  | bad => simp only [hoD, hosD, HoD, HoSD, nxt, fin, noX]
theorem ho_orT {x y : M Bool} {Q : Bool → Sto → Prop} : Ho (orT x y S) Q E ↔ Ho (x S) (fun w S' => match w with | true => Q true S' | false => Ho (y S') Q E) E := by
  rw [orT_d]
  cases x S with
  | ok w S' => cases w <;> simp only [hoD, hosD, HoD, HoSD, nxt, fin, noX]
  | ex x S' => simp only [hoD, hosD, HoD, HoSD, nxt, fin, noX]
  | bad => simp only [hoD, hosD, HoD, HoSD, nxt, fin, noX]
theorem ho_ite {x : M Bool} {y z : M β} : Ho (iteM x y z S) Q E ↔ Ho (x S) (fun w S' => match w with | true => Ho (y S') Q E | false => Ho (z S') Q E) E := by
  rw [iteM_d]
  cases x S with
  | ok w S' => cases w <;> simp only [hoD, hosD, HoD, HoSD, nxt, fin, noX]
  | ex x S' => simp only [hoD, hosD, HoD, HoSD, nxt, fin, noX]
  | bad => simp only [hoD, hosD, HoD, HoSD, nxt, fin, noX]
theorem ho_chain {g1 g2 : W → W → M W} {fa fb fd : M W} {Q : W → Sto → Prop} : Ho (chainM g1 g2 fa fb fd S) Q E ↔ Ho (fa S) (fun x S1 => Ho (fb S1) (fun y S2 => Ho (g1 x y S2) (fun z S3 => match z with | .bl true => Ho (fd S3) (fun w S4 => Ho (g2 y w S4) Q E) E | .bl false => Q (.bl false) S3 | _ => False) E) E) E := by
  unfold chainM
  simp only [ho_bd]
  cases fa S with
  | ok x S1 =>
    simp only [ho_ok]
    cases fb S1 with
    | ok y S2 =>
      simp only [ho_ok]
      cases g1 x y S2 with
      | ok z S3 =>
        cases z with
        | bl b => cases b with
          | true => simp only [ho_ok, ho_bd]
          | false => simp only [hoD, HoD, RP.ret]
        | _ => simp only [hoD, HoD, stuck]
      | ex x S' => simp only [hoD, hosD, HoD, HoSD, nxt, fin, noX]
      | bad => simp only [hoD, hosD, HoD, HoSD, nxt, fin, noX]
    | ex x S' => simp only [hoD, hosD, HoD, HoSD, nxt, fin, noX]
    | bad => simp only [hoD, hosD, HoD, HoSD, nxt, fin, noX]
  | ex x S' => simp only [hoD, hosD, HoD, HoSD, nxt, fin, noX]
  | bad => simp only [hoD, hosD, HoD, HoSD, nxt, fin, noX]
end
/-! ### frames: all but the place r stays -/
structure Fr (r : Nat) (S S' : Sto) : Prop where
  len : S.length ≤ S'.length
  get : ∀ i o, i ≠ r → S[i]? = some o → S'[i]? = some o
theorem Fr.refl {r : Nat} {S : Sto} : Fr r S S := ⟨Nat.le_refl _, fun _ _ _ h => h⟩
theorem Fr.trans {r : Nat} {S S1 S2 : Sto} (a : Fr r S S1) (b : Fr r S1 S2) : Fr r S S2 := ⟨Nat.le_trans a.len b.len, fun i o n h => b.get i o n (a.get i o n h)⟩
theorem Fr.set {r : Nat} {S : Sto} {o : Ob} : Fr r S (S.set r o) := ⟨by simp, fun i u n h => by rw [List.getElem?_set_ne (Ne.symm n)]; exact h⟩
theorem Fr.app {r : Nat} {S T : Sto} : Fr r S (S ++ T) := ⟨by simp, fun i u n h => get_app h⟩
/-- nothing is changed, things are new -/
def Ext (S S' : Sto) : Prop := S <+: S'
theorem Ext.get {S S' : Sto} (e : S <+: S') {i : Nat} {o : Ob} (h : S[i]? = some o) : S'[i]? = some o := by
  obtain ⟨t, rfl⟩ := e
  exact get_app h
theorem Ext.fr {r : Nat} {S S' : Sto} (e : S <+: S') : Fr r S S' := by
  obtain ⟨t, rfl⟩ := e
  exact Fr.app
/-- the laws' row: the script, the place, the mix, the rest -/
def Row (S : Sto) (r : Nat) : Prop := ∃ sc ns i a b, S[r]? = some (.lst [.ref sc, .int i, .int a, .int b]) ∧ sc ≠ r ∧ S[sc]? = some (.scr ns) ∧ 0 ≤ i
theorem Row.fr {S S' : Sto} {r : Nat} (h : Row S r) (e : S <+: S') : Row S' r := by
  obtain ⟨sc, ns, i, a, b, h1, h2, h3, h4⟩ := h
  exact ⟨sc, ns, i, a, b, Ext.get e h1, h2, Ext.get e h3, h4⟩
end RP

/-! RpR: texts of signs, lists of numbers. -/
namespace RP
open PySem L2
def one (c : Nat) : Str := ⟨#[c]⟩
def txt (l : List Nat) : Str := ⟨l.toArray⟩
theorem txt_list (l : List Nat) : (txt l).cps.toList = l := rfl
theorem txt_len (l : List Nat) : (txt l).length = l.length := by show l.toArray.size = _; simp
theorem join_txt : ∀ l : List Nat, Txt.join (Str.ofString "") (l.map one) = txt l := by
  intro l
  have e : Txt.join (Str.ofString "") (l.map one) = Str.join ⟨#[]⟩ (l.map one) := StrLaws.glued_eq_join _ _
  rw [e]
  induction l with
  | nil => rfl
  | cons c l ih =>
    rw [List.map_cons, PyProof.Rows.join_nil_cons, ih]
    · show (⟨#[c] ++ l.toArray⟩ : Str) = ⟨(c :: l).toArray⟩
      simp
    · exact StrLaws.glued_eq_join _ _
theorem sum_ones : ∀ l : List Nat, ((l.map one).map (·.length)).sum = l.length
  | [] => rfl
  | c :: l => by
    have := sum_ones l
    simp only [List.map_cons, List.sum_cons, List.length_cons, this]
    show 1 + _ = _
    omega
theorem mapM_ints (n : Nat) (S : Sto) : ∀ l : List Int, (l.map W.int).mapM (dat n S) = some (l.map PyData.int)
  | [] => by simp
  | i :: l => by
    rw [List.map_cons, List.mapM_cons, mapM_ints n S l]
    cases n <;> rfl
theorem dat_ints {S : Sto} {i : Nat} {l : List Int} (h : S[i]? = some (.lst (l.map W.int))) (n : Nat) : dat (n + 1) S (.ref i) = some (.list (l.map PyData.int)) := by
  unfold dat
  rw [h]
  simp only [mapM_ints]
  rfl
theorem shaped_ints (l : List Int) : SeqAt.shaped (.list (l.map PyData.int)) = true := by
  have h1 : ∀ l : List Int, PyData.canLayAll0 (l.map PyData.int) = true := fun l => by
    induction l with
    | nil => rfl
    | cons i l ih => simp only [List.map_cons, PyData.canLayAll0, PyData.canLay0, ih, Bool.and_self]
  have h2 : ∀ l : List Int, PyData.depthAll (l.map PyData.int) ≤ 1 := fun l => by
    induction l with
    | nil => simp [PyData.depthAll]
    | cons i l ih => simp only [List.map_cons, PyData.depthAll, PyData.depth]; omega
  have := h2 l
  refine Bool.and_eq_true_iff.mpr ⟨?_, decide_eq_true ?_⟩
  · simp only [PyData.canLay0, h1 l]
  · simp only [PyData.depth]
    omega
theorem eqv_ints (l l' : List Int) : PyData.eqv (.list (l.map PyData.int)) (.list (l'.map PyData.int)) = decide (l = l') := by
  rw [PyData.eqv]
  exact PySem.W.ked_eqvAll l l'
theorem eq_ints {S : Sto} {i j : Nat} {l l' : List Int} (h : S[i]? = some (.lst (l.map W.int))) (h' : S[j]? = some (.lst (l'.map W.int))) : pyEq (.ref i) (.ref j) S = .ok (.bl (decide (l = l'))) S := by
  have e : eqW S (.ref i) (.ref j) = some (decide (l = l')) := by
    unfold eqW
    simp only [dat_ints h, dat_ints h', shaped_ints, eqv_ints, Bool.and_self, if_true]
  simp only [pyEq, e]
theorem ne_ints {S : Sto} {i j : Nat} {l l' : List Int} (h : S[i]? = some (.lst (l.map W.int))) (h' : S[j]? = some (.lst (l'.map W.int))) : pyNe (.ref i) (.ref j) S = .ok (.bl (!decide (l = l'))) S := by
  have e : eqW S (.ref i) (.ref j) = some (decide (l = l')) := by
    unfold eqW
    simp only [dat_ints h, dat_ints h', shaped_ints, eqv_ints, Bool.and_self, if_true]
  simp only [pyNe, e]
end RP
namespace RP
open PySem L2
/-- one turn of a loop has ended so -/
def stp (P : Nat → Slots → Sto → Prop) (n : Nat) (R : Fl → Sto → Prop) : Fl → Sto → Prop := fun f S => match f with
  | .nx sl => P (n + 1) sl S
  | .ct sl => P (n + 1) sl S
  | .bk sl => R (.nx sl) S
  | f => R f S
section
variable {S : Sto} {sl : Slots} {R : Fl → Sto → Prop} {F : XS} {P : Nat → Slots → Sto → Prop} {n : Nat}
theorem stp_nx : stp P n R (.nx sl) S ↔ P (n + 1) sl S := Iff.rfl
theorem stp_ct : stp P n R (.ct sl) S ↔ P (n + 1) sl S := Iff.rfl
theorem stp_bk : stp P n R (.bk sl) S ↔ R (.nx sl) S := Iff.rfl
theorem stp_rt {w : W} : stp P n R (.rt w) S ↔ R (.rt w) S := Iff.rfl
end
theorem hos_forM {v : View} {g : W → Slots → M Slots} {body : Slots → M Fl} {ws : List W} {R : Fl → Sto → Prop} {F : XS} (P : Nat → Slots → Sto → Prop) (hv : ∀ n sl S, P n sl S → v S = some ws)
    (step : ∀ n w sl S, ws[n]? = some w → P n sl S → Ho (g w sl S) (fun sl1 S1 => HoS (body sl1 S1) (stp P n R) F) noX) (hf : ∀ sl S, P ws.length sl S → R (.nx sl) S) :
    ∀ (f n : Nat) (sl : Slots) (S : Sto), n + f = ws.length + 1 → n ≤ ws.length → P n sl S → HoS (forM v g body f n sl S) R F := by
  intro f
  induction f with
  | zero =>
    intro n sl S hn hn2 h
    omega
  | succ f ih =>
    intro n sl S hn hn2 h
    unfold forM
    rw [hv n sl S h]
    by_cases hl : n < ws.length
    · have hw : ws[n]? = some ws[n] := List.getElem?_eq_getElem hl
      have st := step n _ sl S hw h
      simp only [hw]
      cases q : g ws[n] sl S with
      | ok sl1 S1 =>
        rw [q] at st
        have st : HoS (body sl1 S1) (stp P n R) F := st.h
        obtain ⟨st⟩ := st
        simp only
        cases q2 : body sl1 S1 with
        | ok fl S2 =>
          rw [q2] at st
          cases fl with
          | nx sl2 => exact ih (n + 1) sl2 S2 (by omega) hl st
          | ct sl2 => exact ih (n + 1) sl2 S2 (by omega) hl st
          | bk sl2 => exact ⟨st⟩
          | rt w => exact ⟨st⟩
          | xx x sl2 => exact ⟨st⟩
        | ex x S2 => rw [q2] at st; exact st.elim
        | bad => rw [q2] at st; exact st.elim
      | ex x S1 => rw [q] at st; exact st.h.elim
      | bad => rw [q] at st; exact st.h.elim
    · have hw : ws[n]? = none := List.getElem?_eq_none (by omega)
      simp only [hw]
      have : n = ws.length := by omega
      subst this
      exact ⟨hf sl S h⟩
theorem hos_for {v : View} {g : W → Slots → M Slots} {body : Slots → M Fl} {ws : List W} {R : Fl → Sto → Prop} {F : XS} {sl : Slots} {S : Sto} (P : Nat → Slots → Sto → Prop) (h0 : P 0 sl S) (hv : ∀ n sl S, P n sl S → v S = some ws)
    (step : ∀ n w sl S, ws[n]? = some w → P n sl S → Ho (g w sl S) (fun sl1 S1 => HoS (body sl1 S1) (stp P n R) F) noX) (hf : ∀ sl S, P ws.length sl S → R (.nx sl) S) : HoS (forV v g body sl S) R F := by
  unfold forV
  rw [hv 0 sl S h0]
  exact hos_forM P hv step hf _ 0 sl S (by omega) (Nat.zero_le _) h0
theorem ho_lc {v : View} {g : W → Slots → M Slots} {test : Slots → M Bool} {elt : Slots → M W} {sl0 : Slots} {ws : List W} {S : Sto} {Q : W → Sto → Prop} {E : XQ} (P : Nat → List W → Sto → Prop) (h0 : P 0 [] S) (hv : ∀ n acc S, P n acc S → v S = some ws)
    (step : ∀ n w acc S, ws[n]? = some w → P n acc S → Ho (g w sl0 S) (fun sl1 S1 => Ho (test sl1 S1) (fun b S2 => match b with | false => P (n + 1) acc S2 | true => Ho (elt sl1 S2) (fun y S3 => acc.length < sizeLine ∧ P (n + 1) (acc ++ [y]) S3) noX) noX) noX)
    (hf : ∀ acc S', P ws.length acc S' → Q (.ref S'.length) (S' ++ [.lst acc])) : Ho (lcV v g test elt sl0 S) Q E := by
  obtain ⟨acc, S', e, h⟩ := lcV_ind (S := S) (v := v) (g := g) (test := test) (elt := elt) (sl0 := sl0) (ws := ws) P h0 hv fun n w acc S hw hp => by
    obtain ⟨sl1, S1, e1, h1⟩ := Ho.ex (step n w acc S hw hp)
    obtain ⟨b, S2, e2, h2⟩ := Ho.ex h1
    cases b with
    | false => exact ⟨sl1, S1, e1, .inl ⟨S2, e2, h2⟩⟩
    | true =>
      obtain ⟨y, S3, e3, hz, h3⟩ := Ho.ex h2
      exact ⟨sl1, S1, e1, .inr ⟨S2, y, S3, e2, e3, hz, h3⟩⟩
  rw [e]
  exact ⟨hf acc S' h⟩
end RP

/-! RpS: the law's def at the end. -/
namespace RP
open PySem L2
/-- no list is written in K -/
def notLst (v : Value) : Bool := match v with
  | .type n => !(n == "list")
  | _ => true
def noList (K : PySem.W.Frag) : Bool := K.all fun p => notLst p.2.cls
def spLaw (K : PySem.W.Frag) : Sp := fun vs H Q _ => ∃ (a : Addr) (ns : List Int), vs = [.ref a] ∧ Only H ∧ SqL K H a (ns.map V.int) ∧ ∀ H', Q (.bl true) H'
theorem lookup_mem {K : PySem.W.Frag} {a : Addr} {o : Obj} (h : K.lookup a = some o) : (a, o) ∈ K := by
  induction K with
  | nil => cases h
  | cons p K ih =>
    obtain ⟨b, u⟩ := p
    rw [List.lookup_cons] at h
    split at h
    · rename_i e
      cases h
      rw [beq_iff_eq.mp e]
      exact List.mem_cons_self
    · exact List.mem_cons_of_mem _ (ih h)
theorem sp_law {T : Tab} {K : PySem.W.Frag} {g : List W → M W} (hn : noList K = true) (ok : ∀ (S : Sto) (sc : Nat) (ns : List Int), S[sc]? = some (.scr ns) → Ho (g [.ref sc] S) (fun v _ => v = .bl true) noX) :
    ∀ vs H Q E, spLaw K vs H Q E → spM T K g vs H Q E := by
  rintro vs H Q E ⟨a, ns, rfl, hO, hS, hQ⟩
  have ha : ∃ o, H a = some (.frz o (.lst (ns.map V.int))) := by
    rcases hS with (h | h) | ⟨o, its, n, h1, h2, _⟩
    · rcases hO a with z | ⟨o, xs, z⟩
      · rw [h] at z; cases z
      · rw [h] at z; cases z
    · exact h
    · have := List.all_eq_true.mp hn _ (lookup_mem h1)
      have h2 : o.cls = .type "list" := h2
      simp only [h2] at this
      exact absurd this (by decide)
  obtain ⟨o, ha⟩ := ha
  obtain ⟨v, S', e, rfl⟩ := Ho.ex (ok [.scr ns] 0 ns rfl)
  refine ⟨[a], [.scr ns], [.ref 0], ⟨rfl, by simp, fun i b ob e1 e2 => ?_⟩, .cons (.ref rfl) .nil, ?_⟩
  · match i, e1, e2 with
    | 0, e1, e2 =>
      cases e1
      cases e2
      exact ⟨o, ha⟩
  · rw [e]
    intro ad' H' v l R r
    cases r
    exact hQ H'
/-- a def by its own function object -/
theorem fn_same {m : Mo} {T : Tab} {k : Nat} {x qual : Str} {st : Stmt} {f : Addr} {fd : FuncData} {N ps : List Str} {fb : Slots → M Fl} (F : Fun m.K x qual st f fd) (S : FnScope N ps (defScope st))
    (h : SSs m T k true true (defScope st) N N (defBody st) fb) : FnOk m.P m.w m.K m.mg m.base (CX m.P m.w) (k + 1) f fd ps (spM T m.K (bodyM N.length ps.length fb)) := by
  have len : ∀ ws S, ws.length ≠ ps.length → bodyM N.length ps.length fb ws S = .bad := fun ws S hn => by unfold bodyM; rw [if_neg hn]
  obtain ⟨oc, od, kV, doc, pm, an, cdv, ct, osl, rfl, lk, hcd⟩ := F.ex
  refine fn_of lk hcd S (fun vs H Q E hsp => ?_) fun A outer s H vs Q E hr hsp => ?_
  · obtain ⟨ad, S, ws, R, r, h⟩ := hsp
    rw [← r.length]
    apply Classical.byContradiction
    intro hn
    exact not_bad h (len ws S hn)
  · obtain ⟨ad, S0, ws, R, r, hh⟩ := hsp
    have hl : ws.length = ps.length := Classical.byContradiction fun hn => not_bad hh (len ws S0 hn)
    have g : Good m k true true (defScope st) N N (cxOf (CX m.P m.w) m.P m.w m.K m.mg m.base N qual (defScope st) f cdv A outer s H E) :=
      ⟨rfl, rfl, rfl, S.nd, fun _ => rfl, fun _ => hr, hr.units, passes_of rfl, fun _ _ => rfl, fun _ => ⟨rfl, rfl⟩⟩
    refine ⟨_, h _ g _ (takes_of rfl rfl rfl rfl), ad, S0, _, R, RelSl.start (N := N) r, ?_⟩
    unfold bodyM at hh
    rw [if_pos hl] at hh
    cases q : fb (ws.map some ++ List.replicate (N.length - ws.length) none) S0 with
    | ok fl S1 =>
      rw [q] at hh
      cases fl with
      | nx sl => exact fun ad' H' σ' l R' L' => hh ad' H' .non l R' .non
      | rt w => exact hh
      | bk sl => exact hh.elim
      | ct sl => exact hh.elim
      | xx x sl => exact fun ad' H' cls d σ' l R' x' L' => hh ad' H' cls d l R' x'
    | ex x S1 => rw [q] at hh; exact hh.elim
    | bad => rw [q] at hh; exact hh.elim
theorem cx_no {P : Program} {w : World} {outer : List Env} {H : Hp} {s : Shared} {u : Value} {s' : Shared} (h : CX P w outer H s (fun _ _ _ => False) u s') : False := by
  obtain ⟨a, B, H', cls, d, _, _, _, _, _, _, _, z⟩ := h
  exact z
end RP

/-! RpT: list(x), tuple(x); three names set at once. -/
namespace RP
open PySem L2
section
variable {m : Mo} {T : Tab} {k : Nat} {c t : Bool} {sc : Scope} {N ow : List Str}
def listM (ws : List W) : M W := fun S => match ws with
  | [.str x] => if x.length ≤ sizeLine then .ok (.ref S.length) (S ++ [.lst (x.cps.toList.map fun n => W.str ⟨#[n]⟩)]) else .bad
  | [.tup xs] => .ok (.ref S.length) (S ++ [.lst xs])
  | [.ref i] => match seqOf S i with
    | some xs => .ok (.ref S.length) (S ++ [.lst xs])
    | none => .bad
  | _ => .bad
theorem rel_signs {K : PySem.W.Frag} {ad : List Addr} {H : Hp} : ∀ l : List Nat, RelWs K ad H (l.map fun n => W.str ⟨#[n]⟩) (l.map fun n => V.str ⟨#[n]⟩)
  | [] => .nil
  | n :: l => .cons (.str _) (rel_signs l)
theorem n_list (hc : c = true) : SN m T k c t sc N ow (.type "list") listM := fun X g E pins s σ H xs us Q I r ⟨ad, S, ws, R, rw', h⟩ => by
  have cm := g.calm hc
  obtain ⟨rfl, _⟩ := g
  unfold listM at h
  split at h
  · rename_i x
    match xs, rw' with
    | [_], .cons (.str _) .nil =>
      split at h
      · rename_i hz
        obtain ⟨u, rfl, ru⟩ := vals1 r
        obtain ⟨tk, rfl⟩ := ru
        refine PySem.call_list_str (I.ok.hd cm) x tk (fun h' tk' acc c' hk e hi => ?_) hz
        have hz' : x.cps.size ≤ sizeLine := hz
        refine ⟨.ref s.heap.objs.size, upd H s.heap.objs.size (.lst (x.cps.toList.map fun n => V.str ⟨#[n]⟩)), I.laid hk (Nat.le_refl _) ⟨by simpa using hz', acc.toList, c', ?_, by rw [Array.toArray_toList]; exact e⟩, rfl, ?_⟩
        · refine vals_of_idx _ _ (by simpa using hi.1) fun j u hj => ?_
          obtain ⟨cp, t', hc', rfl⟩ := hi.2 j u (by rw [← Array.getElem?_toList]; exact hj)
          exact ⟨.str ⟨#[cp]⟩, by simp [hc'], ⟨_, rfl⟩⟩
        · exact run_newlst R (I.hok.fresh (Nat.le_refl _)) (rel_signs _) h
      · exact h.elim
  · match xs, rw' with
    | [_], .cons (.tup s1 r1) .nil => exact call_list_of pins s σ H _ us Q I r ⟨_, _, rfl, .inr s1, fun l hl => run_newlst R hl r1 h⟩
  · rename_i i
    match xs, rw' with
    | [_], .cons (.ref e1) .nil =>
      split at h
      · rename_i ys hs
        obtain ⟨vs, q, r2⟩ := R.seq e1 hs
        exact call_list_of pins s σ H _ us Q I r ⟨_, _, rfl, .inl q, fun l hl => run_newlst R hl r2 h⟩
      · exact h.elim
  · exact h.elim
def tupleM (ws : List W) : M W := fun S => match ws with
  | [.tup xs] => .ok (.tup xs) S
  | [.ref i] => match seqOf S i with
    | some xs => .ok (.tup xs) S
    | none => .bad
  | _ => .bad
theorem n_tuple : SN m T k c t sc N ow (.type "tuple") tupleM := fun X g E pins s σ H xs us Q I r ⟨ad, S, ws, R, rw', h⟩ => by
  obtain ⟨rfl, _⟩ := g
  unfold tupleM at h
  split at h
  · match xs, rw' with
    | [_], .cons (.tup s1 r1) .nil => exact call_tuple_of pins s σ H _ us Q I r ⟨_, _, rfl, .inr ⟨s1, run_ok R (.tup s1 r1) h⟩⟩
  · match xs, rw' with
    | [_], .cons (.ref e1) .nil =>
      split at h
      · rename_i ys hs
        obtain ⟨vs, q, r2⟩ := R.seq e1 hs
        exact call_tuple_of pins s σ H _ us Q I r ⟨_, _, rfl, .inl ⟨q, fun l hl => run_newtup R hl r2 h⟩⟩
      · exact h.elim
  · exact h.elim
theorem s_par3 {a b d : Expr} {x y z : Str} {fs : Slots → M (List W)} {px py pz pt pt2 pos : Pos} {kt k2 : Nat} (i j l : Nat) (hc : c = true) (ha : SA m T k c t sc N ow [a, b, d] fs) (hi : N[i]? = some x := by rfl) (hj : N[j]? = some y := by rfl) (hl : N[l]? = some z := by rfl)
    (hij : i ≠ j := by decide) (hil : i ≠ l := by decide) (hjl : j ≠ l := by decide) (hx : sc.names.lookup x = some .local := by rfl) (hy : sc.names.lookup y = some .local := by rfl) (hz : sc.names.lookup z = some .local := by rfl)
    (hw : ∀ X, Good m k c t sc N ow X → swappedStores [.Tuple [.Name x px, .Name y py, .Name z pz] kt pt] (.Tuple [a, b, d] k2 pt2) X.env = pure (some [x, y, z])) :
    SS m T k c t sc N ow (.Assign [.Tuple [.Name x px, .Name y py, .Name z pz] kt pt] (.Tuple [a, b, d] k2 pt2) pos) (fun sl => exA sl (fs sl) fun ws S => if ws.length = 3 then .ok (.nx (parM [i, j, l] sl ws)) S else .bad) := fun X g Wx tk => by
  refine (ps_par3 (g.calm hc) (by rw [g.hN]; exact g.nd) (by rw [g.hN]; exact hi) (by rw [g.hN]; exact hj) (by rw [g.hN]; exact hl) hij hil hjl (by rw [g.hsc]; exact hx) (by rw [g.hsc]; exact hy) (by rw [g.hsc]; exact hz) (ha X g Wx tk) (hw X g)).imp fun D σ H h => ?_
  obtain ⟨ad, S, sl, R, L, h⟩ := h
  refine ⟨ad, S, sl, R, L, runA_imp (run_exA L h) ?_⟩
  rintro vs H1 ⟨ad1, S1, ws, l1, R1, r1, h1⟩
  split at h1
  · rename_i hl
    match ws, hl, r1 with
    | [w1, w2, w3], _, .cons (v := v1) r1 (.cons (v := v2) r2 (.cons (v := v3) r3 .nil)) =>
      exact ⟨v1, v2, v3, rfl, runS_nx R1 ((((L.mono l1).set r1 i).set r2 j).set r3 l) h1⟩
  · exact h1.elim
theorem listM_s {S : Sto} (x : Str) : listM [.str x] S = if x.length ≤ sizeLine then .ok (.ref S.length) (S ++ [.lst (x.cps.toList.map fun n => W.str ⟨#[n]⟩)]) else .bad := rfl
theorem listM_r {S : Sto} {i : Nat} {xs : List W} (h : seqOf S i = some xs) : listM [.ref i] S = .ok (.ref S.length) (S ++ [.lst xs]) := by simp only [listM, h]
theorem tupleM_r {S : Sto} {i : Nat} {xs : List W} (h : seqOf S i = some xs) : tupleM [.ref i] S = .ok (.tup xs) S := by simp only [tupleM, h]
end
end RP

/-! RpU: enumerate(x), zip(x, y) over lists, tuples, texts. -/
namespace RP
open PySem L2 PySem.Spec PyProof.Rows
/-- what is walked -/
inductive Src where
  | lst (a : Addr) | tup (a : Addr) | txt (x : Str)
def Src.val : Src → V
  | .lst a => .ref a
  | .tup a => .ref a
  | .txt x => .str x
def Src.adr : Src → Option Addr
  | .lst a => some a
  | .tup a => some a
  | .txt _ => none
def SrcAt (K : PySem.W.Frag) (H : Hp) : Src → List V → Prop
  | .lst a, xs => SqL K H a xs
  | .tup a, xs => SqT K H a xs
  | .txt x, xs => xs = x.cps.toList.map fun n => V.str ⟨#[n]⟩
def ItAt (h : Heap) (p : Addr) : Src → Nat → Prop
  | .lst a, i => h.IsListIter p a i
  | .tup a, i => h.IsTupleIter p a i
  | .txt x, i => ∃ t, h.IsStrIter p (strIterType x) x t i
theorem ItAt.at_ {h h' : Heap} {p : Addr} {src : Src} {i : Nat} (z : ItAt h p src i) (e : ∀ o, h.get? p = some o → h'.get? p = some o) : ItAt h' p src i := by
  cases src with
  | lst a => exact Heap.IsListIter.at z e
  | tup a => exact Heap.IsTupleIter.at z e
  | txt x =>
    obtain ⟨t, o, ho, r⟩ := z
    exact ⟨t, o, e _ ho, r⟩
theorem ItAt.obj {h : Heap} {p : Addr} {src : Src} {i : Nat} (z : ItAt h p src i) : ∃ o n vs, h.get? p = some o ∧ o.cls = .type n ∧ n ≠ "list" ∧ n ≠ "tuple" ∧ n ≠ "zip" ∧ n ≠ "enumerate" ∧ o.data = .fields vs := by
  cases src with
  | lst a =>
    obtain ⟨o, ho, hc, hd⟩ := z
    exact ⟨o, _, _, ho, hc, by decide, by decide, by decide, by decide, hd⟩
  | tup a =>
    obtain ⟨o, ho, hc, hd⟩ := z
    exact ⟨o, _, _, ho, hc, by decide, by decide, by decide, by decide, hd⟩
  | txt x =>
    obtain ⟨t, o, ho, hc, hd⟩ := z
    refine ⟨o, _, _, ho, hc, ?_, ?_, ?_, ?_, hd⟩ <;> · unfold strIterType; split <;> decide
section
variable {prog : Program} {w : World} {A : Around}
theorem past_list (hh : A.handled = none) (p l : Addr) (its : Array Value) (i : Nat) (hx : its[i]? = none) : Draws prog w A p [p, l] i (fun _ _ => False) (fun j h => j = i ∧ h.IsListIter p l i ∧ h.IsList l its) where
  live := fun _ _ z => let ⟨o, ho, _⟩ := z.2.1; ⟨o, ho⟩
  frame := fun _ _ _ z hk => ⟨z.1, z.2.1.at fun o e => hk p (by simp) o e, z.2.2.at fun o e => hk l (by simp) o e⟩
  item := fun j s Q E hj z _ => absurd z.1 (Nat.ne_of_lt hj)
  done := fun s Q E z hE => wpAny_nextOf_list_end hh z.2.1 z.2.2 hx hE
theorem past_tup (hh : A.handled = none) (p l : Addr) (its : Array Value) (i : Nat) (hx : its[i]? = none) : Draws prog w A p [p, l] i (fun _ _ => False) (fun j h => j = i ∧ h.IsTupleIter p l i ∧ h.IsTuple l its) where
  live := fun _ _ z => let ⟨o, ho, _⟩ := z.2.1; ⟨o, ho⟩
  frame := fun _ _ _ z hk => ⟨z.1, z.2.1.at fun o e => hk p (by simp) o e, z.2.2.at fun o e => hk l (by simp) o e⟩
  item := fun j s Q E hj z _ => absurd z.1 (Nat.ne_of_lt hj)
  done := fun s Q E z hE => wpAny_nextOf_tuple_end hh z.2.1 z.2.2 hx hE
theorem past_txt (hh : A.handled = none) (p : Addr) (x : Str) (t : Tok) (i : Nat) (hx : x.cps[i]? = none) : Draws prog w A p [p] i (fun _ _ => False) (fun j h => j = i ∧ h.IsStrIter p (strIterType x) x t i) where
  live := fun _ _ z => let ⟨o, ho, _⟩ := z.2; ⟨o, ho⟩
  frame := fun _ _ _ z hk => ⟨z.1, let ⟨o, ho, r⟩ := z.2; ⟨o, hk p (by simp) o ho, r⟩⟩
  item := fun j s Q E hj z _ => absurd z.1 (Nat.ne_of_lt hj)
  done := fun s Q E z hE => by
    have z2 := z.2
    cases ha : x.cps.all (· < 128)
    · simp only [strIterType, ha, Bool.false_eq_true, if_false] at z2
      exact wpAny_nextOf_wide_end hh z2 hx hE
    · simp only [strIterType, ha, if_true] at z2
      exact wpAny_nextOf_ascii_end hh z2 hx hE
end
/-- the iterator as the library draws from it, at turn i -/
theorem src_draws {X : Cx} {pins : List (Addr × Obj)} {σ : L2.St} {H : Hp} {s : Shared} (I : Inv X pins σ H s) (hh : X.A.handled = none) {src : Src} {xs : List V} {p : Addr} {i : Nat} (hs : SrcAt X.K H src xs) (hi : ItAt s.heap p src i) :
    ∃ (fp : List Addr) (n : Nat) (P : Nat → Value → Prop) (St : Nat → Heap → Prop), Draws X.prog X.w X.A.in1 p fp n P St ∧ St i s.heap ∧ p ∈ fp ∧ (i < xs.length → i < n) ∧ (xs.length ≤ i → i = n) ∧ i ≤ n ∧
      (∀ v, P i v → ∃ x, xs[i]? = some x ∧ RelV x v) ∧ (∀ h, St (i + 1) h → ItAt h p src (i + 1)) ∧ ∀ b ∈ fp, b = p ∨ (src.adr = some b ∧ ∃ o, s.heap.get? b = some o ∧ (o.cls = .type "list" ∨ o.cls = .type "tuple")) := by
  have h1 : X.A.in1.handled = none := hh
  cases src with
  | lst a =>
    obtain ⟨its, rv, pl, hz⟩ := I.list hs
    have hl := rv.length
    obtain ⟨o, ho, hc, m, hd⟩ := pl.isList
    have hne : a ≠ p := fun z => by
      obtain ⟨o2, n2, _, g, c2, d2, _⟩ := hi.obj
      rw [← z, ho] at g
      cases g
      rw [hc] at c2
      cases c2
      exact d2 rfl
    have hb : ∀ b ∈ [p, a], b = p ∨ (some a = some b ∧ ∃ o, s.heap.get? b = some o ∧ (o.cls = .type "list" ∨ o.cls = .type "tuple")) := fun b hb => by
      rcases List.mem_cons.mp hb with z | z
      · exact .inl z
      · rw [List.mem_singleton.mp z]; exact .inr ⟨rfl, o, ho, .inl hc⟩
    by_cases hlt : i < xs.length
    · refine ⟨[p, a], _, _, _, Draws.list h1 p a hne its.toArray, ⟨hi, pl.isList⟩, by simp, fun _ => by simp; omega, fun z => absurd hlt (by omega), by simp; omega, fun v hv => ?_, fun h z => z.1, hb⟩
      obtain ⟨u, hu, ru⟩ := rv.get (List.getElem?_eq_getElem hlt)
      have hv2 : its[i]? = some v := by simpa using hv
      rw [hu] at hv2
      cases hv2
      exact ⟨_, List.getElem?_eq_getElem hlt, ru⟩
    · refine ⟨[p, a], i, _, _, past_list h1 p a its.toArray i (by simp; omega), ⟨rfl, hi, pl.isList⟩, by simp, fun z => absurd z hlt, fun _ => rfl, Nat.le_refl _, fun v hv => hv.elim, fun h z => absurd z.1 (by omega), hb⟩
  | tup a =>
    obtain ⟨its, rv, pl, hz⟩ := I.tuple hs
    have hl := rv.length
    obtain ⟨o, ho, hc, m, hd⟩ := id pl
    have hne : a ≠ p := fun z => by
      obtain ⟨o2, n2, _, g, c2, _, d2, _⟩ := hi.obj
      rw [← z, ho] at g
      cases g
      rw [hc] at c2
      cases c2
      exact d2 rfl
    have hb : ∀ b ∈ [p, a], b = p ∨ (some a = some b ∧ ∃ o, s.heap.get? b = some o ∧ (o.cls = .type "list" ∨ o.cls = .type "tuple")) := fun b hb => by
      rcases List.mem_cons.mp hb with z | z
      · exact .inl z
      · rw [List.mem_singleton.mp z]; exact .inr ⟨rfl, o, ho, .inr hc⟩
    by_cases hlt : i < xs.length
    · refine ⟨[p, a], _, _, _, Draws.tuple h1 p a hne its.toArray, ⟨hi, pl⟩, by simp, fun _ => by simp; omega, fun z => absurd hlt (by omega), by simp; omega, fun v hv => ?_, fun h z => z.1, hb⟩
      obtain ⟨u, hu, ru⟩ := rv.get (List.getElem?_eq_getElem hlt)
      have hv2 : its[i]? = some v := by simpa using hv
      rw [hu] at hv2
      cases hv2
      exact ⟨_, List.getElem?_eq_getElem hlt, ru⟩
    · refine ⟨[p, a], i, _, _, past_tup h1 p a its.toArray i (by simp; omega), ⟨rfl, hi, pl⟩, by simp, fun z => absurd z hlt, fun _ => rfl, Nat.le_refl _, fun v hv => hv.elim, fun h z => absurd z.1 (by omega), hb⟩
  | txt x =>
    obtain ⟨t, hi⟩ := hi
    have hs : xs = x.cps.toList.map fun n => V.str ⟨#[n]⟩ := hs
    have hl : xs.length = x.cps.size := by rw [hs]; simp
    have hb : ∀ b ∈ [p], b = p ∨ ((none : Option Addr) = some b ∧ ∃ o, s.heap.get? b = some o ∧ (o.cls = .type "list" ∨ o.cls = .type "tuple")) := fun b hb => .inl (List.mem_singleton.mp hb)
    by_cases hlt : i < xs.length
    · refine ⟨[p], _, _, _, Draws.text h1 p x t, hi, by simp, fun _ => by omega, fun z => absurd hlt (by omega), by omega, fun v hv => ?_, fun h z => ⟨t, z⟩, hb⟩
      obtain ⟨c, u, h2, rfl⟩ := hv
      exact ⟨.str ⟨#[c]⟩, by rw [hs]; simp [h2], ⟨_, rfl⟩⟩
    · refine ⟨[p], i, _, _, past_txt h1 p x t i (by simp; omega), ⟨rfl, hi⟩, by simp, fun z => absurd z hlt, fun _ => rfl, Nat.le_refl _, fun v hv => hv.elim, fun h z => absurd z.1 (by omega), hb⟩
theorem src_inj {X : Cx} {pins : List (Addr × Obj)} {σ : L2.St} {H : Hp} {s : Shared} (I : Inv X pins σ H s) {src : Src} {xs ys : List V} (h : SrcAt X.K H src xs) (h' : SrcAt X.K H src ys) : xs = ys := by
  cases src with
  | lst a => exact I.list_inj h h'
  | tup a => exact I.tuple_inj h h'
  | txt x => exact Eq.trans h (Eq.symm h')
/-! ### enumerate -/
def ItE (K : PySem.W.Frag) (src : Src) : It :=
  ⟨fun i H => ∃ (xs : List V) (x : V), SrcAt K H src xs ∧ xs[i]? = some x, fun i H v H' => ∃ q x, v = .ref q ∧ H q = none ∧ H' = upd H q (.tup [.int (i : Nat), x]) ∧ ∀ xs, SrcAt K H src xs → xs[i]? = some x, fun i H => ∃ xs : List V, SrcAt K H src xs ∧ xs.length ≤ i⟩
theorem turn_enumS {P : Program} {w : World} {K : PySem.W.Frag} {elts : List Expr} {kk : Nat} {tpos : Pos} (src : Src) (e p : Addr) :
    Turn P w K (.Tuple elts kk tpos) (ItE K src) [e, p] e (fun i h => (∃ old, IsEnum h e p ((i : Nat) : Int) old) ∧ ItAt h p src i ∧ e ≠ p) where
  mem := by simp
  obj := fun i h z b hb => by
    obtain ⟨⟨old, he⟩, hp, _⟩ := z
    obtain ⟨o, _, _, ho, _, _, _, _, _, hd⟩ := hp.obj
    rcases List.mem_cons.mp hb with q | q
    · rw [q]; exact ⟨_, he, fun v y => nomatch y⟩
    · rw [List.mem_singleton.mp q]; exact ⟨o, ho, fun v y => by rw [hd] at y; cases y⟩
  keep := fun i h h' z k => ⟨⟨z.1.choose, k e (by simp) _ z.1.choose_spec⟩, z.2.1.at_ fun o y => k p (by simp) o y, z.2.2⟩
  item := by
    intro X hP hw hK hc i pins s σ H E I hf z hg
    subst hP hw hK
    obtain ⟨⟨old, he⟩, hp, hne⟩ := z
    obtain ⟨xs, x, hq, hx⟩ := hg
    obtain ⟨fp, n, Pd, St, D, st, hm, lt, _, _, hP, hS, hfp⟩ := src_draws I (I.ok.hd hc) hq hp
    have hel : e < s.heap.objs.size := Heap.lt_size he
    have hpl : p < s.heap.objs.size := let ⟨_, _, _, y, _⟩ := hp.obj; Heap.lt_size y
    have hef : e ∉ fp := fun y => by
      rcases hfp e y with q | ⟨_, o, q, c⟩
      · exact hne q
      · rw [he] at q
        cases q
        rcases c with c | c <;> exact absurd (Value.type.inj c) (by decide)
    refine wpAny_pyNext_enum_itemD D he st (lt (List.getElem?_eq_some_iff.mp hx).1) hne hef fun u h1 tk pu ho st1 hT hsz hk => ?_
    obtain ⟨x', hx', ru⟩ := hP u pu
    rw [hx] at hx'
    cases hx'
    refine ⟨_, rfl, wpAny_letOwnedTupleGo_enum (s := { s with heap := h1, toks := tk + 1 }) ho fun h2 he2 sb => ?_⟩
    have hT2 : h2.get? s.heap.objs.size = some { cls := .type "tuple", data := .seq #[.int i tk, u] } := (sb.2 _ (Nat.ne_of_gt hel)).trans hT
    have made : ObjOk X.prog X.w (upd H s.heap.objs.size (.tup [.int (i : Nat), x])) h2 s.heap.objs.size (.tup [.int (i : Nat), x]) :=
      ⟨by show 2 ≤ sizeLine; decide, [.int i tk, u], .cons ⟨_, rfl⟩ (.cons ru .nil), ⟨_, hT2, rfl, _, rfl⟩⟩
    have I1 : Inv X pins σ (upd H s.heap.objs.size (.tup [.int (i : Nat), x])) { s with heap := h2, toks := tk + 1 } :=
      I.turnedNew (ch := [e, p]) (fun b ob hb y => (sb.2 b (fun q => hb (by simp [q]))).trans (hk b ob (fun q => hb (by simp [q])) (fun q => hb (by simp [q])) y)) hf (Nat.le_refl _) made
    refine ⟨.ref s.heap.objs.size, _, I1, rfl, ⟨_, x, rfl, I.hok.fresh (Nat.le_refl _), rfl, fun ys hy => by rw [src_inj I hy hq]; exact hx⟩, ⟨⟨u, ?_⟩, (hS _ st1).at_ fun o y => (sb.2 p (Ne.symm hne)).trans y, hne⟩, fun b hb => ?_⟩
    · rw [show ((i + 1 : Nat) : Int) = (i : Int) + 1 by omega]; exact he2
    · have hb2 : b < s.heap.objs.size := by
        rcases List.mem_cons.mp hb with q | q
        · rw [q]; exact hel
        · rw [List.mem_singleton.mp q]; exact hpl
      rw [upd_ne (Nat.ne_of_lt hb2)]
      exact (hf b hb).1
  done := by
    intro X hP hw hK hc i pins s σ H E I hf z hg
    subst hP hw hK
    obtain ⟨⟨old, he⟩, hp, hne⟩ := z
    obtain ⟨xs, hq, hx⟩ := hg
    obtain ⟨fp, n, Pd, St, D, st, hm, _, ge, _, hP, hS, hfp⟩ := src_draws I (I.ok.hd hc) hq hp
    have hn := ge hx
    subst hn
    exact wpAny_pyNext_enum_endD D he st fun h1 eb => ⟨rfl, I.turnedL (t' := s.toks) (ch := [e, p]) (fun b o hb y => eb b o (fun q => hb (by simp [q])) y) hf⟩
  self := fun A i s Q E z h => let ⟨⟨_, he⟩, _⟩ := z; wpAny_pyIter_enum he h
/-- iter(x) of a source, as the library begins it -/
def Src.it0 (src : Src) (v : Value) : Obj := match src with
  | .lst a => { cls := .type "list_iterator", data := .fields #[.ref a, .int 0 0] }
  | .tup a => { cls := .type "tuple_iterator", data := .fields #[.ref a, .int 0 0] }
  | .txt x => { cls := .type (strIterType x), data := .fields #[v, .int 0 0] }
theorem src_begins {X : Cx} {pins : List (Addr × Obj)} {σ : L2.St} {H : Hp} {s : Shared} (I : Inv X pins σ H s) {src : Src} {xs : List V} {v : Value} (hs : SrcAt X.K H src xs) (r : RelV src.val v) :
    ∃ Hd : Heap → Prop, Begins v (src.it0 v) Hd ∧ Hd s.heap ∧ ∀ h p, h.get? p = some (src.it0 v) → ItAt h p src 0 := by
  cases src with
  | lst a =>
    obtain rfl : v = .ref a := r
    obtain ⟨its, rv, pl, hz⟩ := I.list hs
    exact ⟨_, begins_list a its.toArray, pl.isList, fun h p e => ⟨_, e, rfl, rfl⟩⟩
  | tup a =>
    obtain rfl : v = .ref a := r
    obtain ⟨its, rv, pl, hz⟩ := I.tuple hs
    exact ⟨_, begins_tuple a its.toArray, pl, fun h p e => ⟨_, e, rfl, rfl⟩⟩
  | txt x =>
    obtain ⟨t, rfl⟩ := r
    exact ⟨_, begins_text x t, trivial, fun h p e => ⟨t, _, e, rfl, rfl⟩⟩
set_option maxHeartbeats 1000000 in
theorem enum_new1 {v : Value} {o : Obj} {H : Heap → Prop} (B : Begins v o H) :
    Meets (Builtin.«enumerate.__new__» ⟨[.type "enumerate", v], []⟩) (fun _ R s => H s.heap ∧
      R (.ok (.ret (.ref (s.heap.push o).objs.size))) { s with heap := (s.heap.push o).push { cls := .type "enumerate", data := .fields #[.none, .bool false, .ref s.heap.objs.size, rawInt 0, .none, .none] } }) :=
  .of_wp fun prog w A R s hr => by
    obtain ⟨hp, g, d, tk, os⟩ := s
    obtain ⟨h1, hr⟩ := hr
    have hsub := sub_enumerate
    have q1 : ∀ {A2 : Around} {E2 : Value → Shared → Prop} {Q2 : Value → Shared → Prop}, Q2 (.ref hp.objs.size) ⟨hp.push o, g, d, tk, os⟩ → wpAny (model prog w) A2 (pyIter v) Q2 E2 ⟨hp, g, d, tk, os⟩ :=
      fun q => B.iter prog w _ _ ⟨hp, g, d, tk, os⟩ _ h1 q
    wp_walk
    refine wpAny_stack_any fun st => wpAny_pure ?_
    split
    · rename_i c _ _ _ _ _
      cases (c == Value.type "enumerate")
      · wp_walk using q1
        exact ⟨_, rfl, hr⟩
      · wp_walk using q1
        exact ⟨_, rfl, hr⟩
    · wp_walk using q1
      exact ⟨_, rfl, hr⟩
theorem call_enum1 {prog : Program} {w : World} {A : Around} {E : Value → Shared → Prop} {s : Shared} {v : Value} {o : Obj} {H : Heap → Prop} {Q : Value → Shared → Prop} (B : Begins v o H) (h1 : H s.heap)
    (hq : ∀ h', IsEnum h' (s.heap.objs.size + 1) s.heap.objs.size 0 .none → h'.get? s.heap.objs.size = some o → (∀ b o, s.heap.get? b = some o → h'.get? b = some o) → Q (.ref (s.heap.objs.size + 1)) { s with heap := h' }) :
    wpAny (model prog w) A (call (.type "enumerate") [v]) Q E s := by
  refine callType_new F.called_enumerate (by decide) (F.typeCall_enumerate_1 _) (F.newCall_enumerate_1 _) (fun obj => F.args_object_init_2 obj _) F.entry_enumerate_new (enum_new1 B) ⟨h1, ?_⟩
  have hz : (s.heap.push o).objs.size = s.heap.objs.size + 1 := Heap.size_push ..
  show _ ∧ _
  rw [hz]
  have he : IsEnum ((s.heap.push o).push { cls := .type "enumerate", data := .fields #[.none, .bool false, .ref s.heap.objs.size, rawInt 0, .none, .none] }) (s.heap.objs.size + 1) s.heap.objs.size 0 .none := by
    have q := Heap.get?_push_size (s.heap.push o) (o := { cls := .type "enumerate", data := .fields #[.none, .bool false, .ref s.heap.objs.size, rawInt 0, .none, .none] }) rfl
    rw [hz] at q
    exact q
  exact ⟨⟨_, he, rfl⟩, hq _ he (Heap.get?_push_of_some _ (Heap.get?_push_size _ B.free)) fun b o y => Heap.get?_push_of_some _ (Heap.get?_push_of_some _ y)⟩
def iEnumS (K : PySem.W.Frag) (ta : TA) : TI := fun σ H R => ta σ H fun vs H1 => ∃ src xs, vs = [src.val] ∧ SrcAt K H1 src xs ∧ R (ItE K src) H1
theorem pi_enumS {X : Cx} {e : Expr} {ta : TA} {p pos tpos : Pos} {elts : List Expr} {kk : Nat} (hg : Gl X "enumerate") (hm : X.mg "enumerate" = none) (ha : PA X [e] ta) (hs : starEach [e] X.env = [(false, eval e X.env)]) :
    PI X (.Tuple elts kk tpos) (.Call (.Name "enumerate" p) [e] [] pos) (iEnumS X.K ta) := by
  refine ⟨fun pins s σ H R I h => ?_⟩
  refine Call_ (ld_blt I hg hm boot_enumerate (PyProof.Rows.callWith_type1 (thn (ha.run pos pins s σ H _ I h) fun us s1 ⟨vs, H1, I1, r1, q1⟩ => ?_) hs rfl))
  obtain ⟨src, xs, ex, hq, q⟩ := q1
  subst ex
  obtain ⟨u, rfl, ru⟩ := vals1 r1
  obtain ⟨Hd, B, hB, hit⟩ := src_begins I1 hq ru
  refine call_enum1 B hB fun h1 he ho hk => wpAny_pyIter_enum he ?_
  have I2 : Inv X pins σ H1 { s1 with heap := h1 } := I1.kept (t' := s1.toks) hk
  refine ⟨s1.heap.objs.size + 1, [s1.heap.objs.size + 1, s1.heap.objs.size], _, _, H1, rfl, I2, turn_enumS src (s1.heap.objs.size + 1) s1.heap.objs.size, ⟨⟨.none, he⟩, hit _ _ ho, Nat.succ_ne_self _⟩, fun b hb => ?_, q⟩
  have hle : s1.heap.objs.size ≤ b := by
    rcases List.mem_cons.mp hb with z | z
    · rw [z]; exact Nat.le_succ _
    · rw [List.mem_singleton.mp z]; exact Nat.le_refl _
  exact I1.fpOk hle (I1.hok.fresh hle)
/-! ### enumerate in the layer -/
def enumL (ws : List W) : List W := ws.zipIdx.map fun p => W.tup [.int (p.2 : Nat), p.1]
theorem enumL_get (ws : List W) (n : Nat) : (enumL ws)[n]? = (ws[n]?).map fun w => W.tup [.int (n : Nat), w] := by
  unfold enumL
  rw [List.getElem?_map, List.getElem?_zipIdx]
  cases ws[n]? <;> simp
theorem enumL_len (ws : List W) : (enumL ws).length = ws.length := by simp [enumL]
/-- a source of the layer: its items by the state -/
def srcOf (w : W) : M View := seqV w
def enumV (ws : List W) : M View := fun S => match ws with
  | [w] => match seqV w S with
    | .ok v S' => .ok (fun S => (v S).map enumL) S'
    | .ex x S' => .ex x S'
    | .bad => .bad
  | _ => .bad
/-- a value that is walked: the source behind it -/
def RelSrc (T : Tab) (K : PySem.W.Frag) (ad : List Addr) (H : Hp) (v : View) (src : Src) : Prop := ∀ ad' H' S', Up K ad H ad' H' → Rel T K ad' H' S' → ∀ ws, v S' = some ws → ∃ vs, SrcAt K H' src vs ∧ RelWs K ad' H' ws vs
theorem src_of {T : Tab} {K : PySem.W.Frag} {ad : List Addr} {H : Hp} {S S2 : Sto} {w : W} {x : V} {v : View} (R : Rel T K ad H S) (r : RelW K ad H w x) (h : seqV w S = .ok v S2) :
    S2 = S ∧ ∃ src, x = src.val ∧ RelSrc T K ad H v src ∧ ∃ ws, v S = some ws := by
  unfold seqV at h
  split at h
  · cases h
    cases r with
    | tup s1 r1 => exact ⟨rfl, .tup _, rfl, fun ad' H' S' l R' ws hw => by cases hw; exact ⟨_, l.fwd _ _ s1, r1.up l⟩, _, rfl⟩
  · split at h
    · rename_i ws hs
      cases h
      cases r with
      | ref e => exact ⟨rfl, .lst _, rfl, fun ad' H' S' l R' ws hw => let ⟨vs, q, rr⟩ := R'.seq (pre_get l.pre e) hw; ⟨vs, q, rr⟩, _, hs⟩
    · cases h
  · cases h
    cases r
    exact ⟨rfl, .txt _, rfl, fun ad' H' S' l R' ws hw => by cases hw; exact ⟨_, rfl, rel_signs _⟩, _, rfl⟩
  · cases h
theorem it_enumR {T : Tab} {K : PySem.W.Frag} {ad : List Addr} {H : Hp} {v : View} {src : Src} (r : RelSrc T K ad H v src) : RelIt T K ad H (fun S => (v S).map enumL) (ItE K src) := fun ad' H' S' l R ws hw n => by
  have hw : Option.map enumL (v S') = some ws := hw
  cases q : v S' with
  | none => rw [q] at hw; cases hw
  | some us =>
    rw [q] at hw
    cases hw
    obtain ⟨vs, hs, rr⟩ := r ad' H' S' l R us q
    refine ⟨fun hn => ?_, fun hn => ⟨vs, hs, by rw [← rr.length, ← enumL_len]; exact hn⟩, fun x H2 y w hw2 => ?_⟩
    · rw [enumL_len] at hn
      obtain ⟨z, hz, _⟩ := rr.get (List.getElem?_eq_getElem hn)
      exact ⟨vs, z, hs, hz⟩
    · obtain ⟨a, z, rfl, ha, rfl, hz⟩ := y
      rw [enumL_get] at hw2
      cases q2 : us[n]? with
      | none => rw [q2] at hw2; cases hw2
      | some u =>
        rw [q2] at hw2
        cases hw2
        obtain ⟨z2, hz2, rz⟩ := rr.get q2
        have := hz vs hs
        rw [hz2] at this
        cases this
        exact ⟨same_new ha, .tup (.inl (.inl upd_same)) (.cons (.int _) (.cons (rz.mono (Le.same0 (same_new ha))) .nil))⟩
section
variable {m : Mo} {T : Tab} {k : Nat} {c t : Bool} {sc : Scope} {N ow : List Str} {a b : Expr} {fs : Slots → M (List W)}
theorem it_enumerate {elts : List Expr} {kk : Nat} {tpos p p2 : Pos} (hm : m.mg "enumerate" = none) (ha : SA m T k c t sc N ow [a] fs) (hg : sc.names.lookup ("enumerate" : Str) = some .globalImplicit := by rfl) (hs : ∀ env, starEach [a] env = [(false, eval a env)] := by intro _; rfl) :
    SIt m T k c t sc N ow (.Tuple elts kk tpos) (.Call (.Name "enumerate" p) [a] [] p2) (fun sl => bd (fs sl) enumV) := fun X g Wx tk => by
  have em : X.mg = m.mg := by rw [← g.mo]; rfl
  have ek : X.K = m.K := by rw [← g.mo]; rfl
  have h1 := pi_enumS (elts := elts) (kk := kk) (tpos := tpos) (p := p) (pos := p2) (gl_of g hg) (by rw [em]; exact hm) (ha X g Wx tk) (hs _)
  refine ⟨fun pins s σ H R I h => h1.run pins s σ H R I ?_⟩
  obtain ⟨ad, S, sl, Re, L, h⟩ := h
  refine ⟨ad, S, sl, Re, L, runA_imp (bdA_runI h) ?_⟩
  rintro vs H1 ⟨ad1, S1, ws, l1, R1, r1, h1⟩
  unfold enumV at h1
  split at h1
  · rename_i w
    match vs, r1 with
    | [x], .cons rx .nil =>
      cases q : seqV w S1 with
      | ok v S2 =>
        obtain ⟨rfl, src, rfl, rs, ws2, hw2⟩ := src_of R1 rx q
        simp only [q] at h1
        obtain ⟨us, hus, _⟩ := rs ad1 H1 _ Le.refl.up R1 ws2 hw2
        rw [ek]
        exact ⟨src, us, rfl, hus, h1 _ _ _ Le.refl R1 (it_enumR rs)⟩
      | ex y S2 =>
        exfalso
        unfold seqV at q
        split at q
        · cases q
        · split at q <;> cases q
        · cases q
        · cases q
      | bad => simp only [q] at h1; exact h1.elim
  · exact h1.elim
end
end RP

/-! RpV: zip(x, y) over lists, tuples, texts. -/
namespace RP
open PySem L2 PySem.Spec PyProof.Rows
def ItZ (K : PySem.W.Frag) (s1 s2 : Src) : It :=
  ⟨fun i H => ∃ (xs ys : List V) (x y : V), SrcAt K H s1 xs ∧ SrcAt K H s2 ys ∧ xs[i]? = some x ∧ ys[i]? = some y,
    fun i H v H' => ∃ q x y, v = .ref q ∧ H q = none ∧ H' = upd H q (.tup [x, y]) ∧ (∀ xs, SrcAt K H s1 xs → xs[i]? = some x) ∧ ∀ ys, SrcAt K H s2 ys → ys[i]? = some y,
    fun i H => ∃ xs ys : List V, SrcAt K H s1 xs ∧ SrcAt K H s2 ys ∧ (xs.length ≤ i ∨ ys.length ≤ i)⟩
/-- the five cells of a zip lie apart, and apart from what is walked -/
structure Far (z ti tu p1 p2 : Addr) (s1 s2 : Src) : Prop where
  a1 : ti ≠ z
  a2 : tu ≠ z
  a3 : ti ≠ tu
  a4 : ti ≠ p1
  a5 : ti ≠ p2
  a6 : z ≠ p1
  a7 : z ≠ p2
  a8 : tu ≠ p1
  a9 : tu ≠ p2
  b1 : p1 ≠ p2
  w1 : ∀ a, s1.adr = some a → a ≠ z ∧ a ≠ tu ∧ a ≠ p2
  w2 : ∀ a, s2.adr = some a → a ≠ z ∧ a ≠ tu ∧ a ≠ p1
theorem Far.sep {z ti tu p1 p2 : Addr} {s1 s2 : Src} {fp1 fp2 : List Addr} (D : Far z ti tu p1 p2 s1 s2) (m1 : p1 ∈ fp1) (m2 : p2 ∈ fp2) (f1 : ∀ b ∈ fp1, b = p1 ∨ s1.adr = some b) (f2 : ∀ b ∈ fp2, b = p2 ∨ s2.adr = some b) : ZipSep2 z ti tu p1 p2 fp1 fp2 where
  TIz := D.a1
  TOz := D.a2
  TITO := D.a3
  TIi1 := D.a4
  mem1 := m1
  zf1 := fun h => (f1 z h).elim D.a6 fun q => (D.w1 z q).1 rfl
  Tf1 := fun h => (f1 tu h).elim D.a8 fun q => (D.w1 tu q).2.1 rfl
  TIi2 := D.a5
  mem2 := m2
  zf2 := fun h => (f2 z h).elim D.a7 fun q => (D.w2 z q).1 rfl
  Tf2 := fun h => (f2 tu h).elim D.a9 fun q => (D.w2 tu q).2.1 rfl
  sep1_2 := fun h => (f2 p1 h).elim D.b1 fun q => (D.w2 p1 q).2.2 rfl
  sep2_1 := fun h => (f1 p2 h).elim (fun q => D.b1 q.symm) fun q => (D.w1 p2 q).2.2 rfl
theorem turn_zipS {P : Program} {w : World} {K : PySem.W.Frag} {elts : List Expr} {kk : Nat} {tpos : Pos} {z ti tu p1 p2 : Addr} {s1 s2 : Src} (D : Far z ti tu p1 p2 s1 s2) :
    Turn P w K (.Tuple elts kk tpos) (ItZ K s1 s2) [z, ti, tu, p1, p2] z (fun i h => IsZip h z ti tu .none ∧ IsTupOf2 h ti (.ref p1) (.ref p2) ∧ (∃ x y, IsTupOf2 h tu x y) ∧ ItAt h p1 s1 i ∧ ItAt h p2 s2 i) where
  mem := by simp
  obj := fun i h st b hb => by
    obtain ⟨hz, ht, ⟨x, y, hu⟩, h1, h2⟩ := st
    obtain ⟨o1, _, _, g1, _, _, _, _, _, d1⟩ := h1.obj
    obtain ⟨o2, _, _, g2, _, _, _, _, _, d2⟩ := h2.obj
    have e : b = z ∨ b = ti ∨ b = tu ∨ b = p1 ∨ b = p2 := by simpa using hb
    rcases e with q | q | q | q | q <;> rw [q]
    · exact ⟨_, hz, fun v r => nomatch r⟩
    · exact ⟨_, ht, fun v r => nomatch r⟩
    · exact ⟨_, hu, fun v r => nomatch r⟩
    · exact ⟨o1, g1, fun v r => by rw [d1] at r; cases r⟩
    · exact ⟨o2, g2, fun v r => by rw [d2] at r; cases r⟩
  keep := fun i h h' st k => by
    obtain ⟨hz, ht, ⟨x, y, hu⟩, h1, h2⟩ := st
    exact ⟨k z (by simp) _ hz, k ti (by simp) _ ht, ⟨x, y, k tu (by simp) _ hu⟩, h1.at_ fun o q => k p1 (by simp) o q, h2.at_ fun o q => k p2 (by simp) o q⟩
  item := by
    intro X hP hw hK hc i pins s σ H E I hf st hg
    subst hP hw hK
    obtain ⟨hz, ht, ⟨x0, y0, hu⟩, h1, h2⟩ := st
    obtain ⟨xs, ys, x, y, hqx, hqy, hx, hy⟩ := hg
    obtain ⟨fp1, n1, P1, S1, D1, t1, m1, lt1, _, _, r1, k1, f1⟩ := src_draws I (I.ok.hd hc) hqx h1
    obtain ⟨fp2, n2, P2, S2, D2, t2, m2, lt2, _, _, r2, k2, f2⟩ := src_draws I (I.ok.hd hc) hqy h2
    have sep := D.sep m1 m2 (fun b hb => (f1 b hb).imp id And.left) (fun b hb => (f2 b hb).imp id And.left)
    have hzl : z < s.heap.objs.size := Heap.lt_size hz
    refine wpAny_pyNext_zipD2_item sep D1 D2 hz ht hu t1 t2 (lt1 (List.getElem?_eq_some_iff.mp hx).1) (lt2 (List.getElem?_eq_some_iff.mp hy).1) fun u1 u2 h' tk q1 q2 z' u' s1' s2' hT hsz hk => ?_
    obtain ⟨x', e1, ru⟩ := r1 u1 q1
    rw [hx] at e1
    cases e1
    obtain ⟨y', e2, ru2⟩ := r2 u2 q2
    rw [hy] at e2
    cases e2
    refine ⟨_, rfl, wpAny_letOwnedTupleGo_zip (s := { s with heap := h', toks := tk }) z' fun h2' z'' sb => ?_⟩
    have hT2 : h2'.get? s.heap.objs.size = some { cls := .type "tuple", data := .seq #[u1, u2] } := (sb.2 _ (Nat.ne_of_gt hzl)).trans hT
    have made : ObjOk X.prog X.w (upd H s.heap.objs.size (.tup [x, y])) h2' s.heap.objs.size (.tup [x, y]) :=
      ⟨by show 2 ≤ sizeLine; decide, [u1, u2], .cons ru (.cons ru2 .nil), ⟨_, hT2, rfl, _, rfl⟩⟩
    have I1 : Inv X pins σ (upd H s.heap.objs.size (.tup [x, y])) { s with heap := h2', toks := tk } :=
      I.turnedNew (t' := tk) (ch := [z, ti, tu, p1, p2]) (fun b o hb q => (sb.2 b (fun r => hb (by simp [r]))).trans (hk b o (fun r => hb (by simp [r])) (fun r => hb (by simp [r])) (fun r => hb (by simp [r])) (fun r => hb (by simp [r])) q)) hf (Nat.le_refl _) made
    refine ⟨.ref s.heap.objs.size, _, I1, rfl, ⟨_, x, y, rfl, I.hok.fresh (Nat.le_refl _), rfl, fun l hl => by rw [src_inj I hl hqx]; exact hx, fun l hl => by rw [src_inj I hl hqy]; exact hy⟩, ⟨z'', ?_, ⟨u1, u2, ?_⟩, ?_, ?_⟩, fun b hb => ?_⟩
    · exact (sb.2 _ D.a1).trans (hk _ _ D.a1 D.a3 D.a4 D.a5 ht)
    · exact (sb.2 _ D.a2).trans u'
    · exact (k1 _ s1').at_ fun o q => (sb.2 _ (Ne.symm D.a6)).trans q
    · exact (k2 _ s2').at_ fun o q => (sb.2 _ (Ne.symm D.a7)).trans q
    · have hlt : b < s.heap.objs.size := by
        have e : b = z ∨ b = ti ∨ b = tu ∨ b = p1 ∨ b = p2 := by simpa using hb
        rcases e with q | q | q | q | q <;> rw [q]
        · exact hzl
        · exact Heap.lt_size ht
        · exact Heap.lt_size hu
        · obtain ⟨_, _, _, g, _⟩ := h1.obj; exact Heap.lt_size g
        · obtain ⟨_, _, _, g, _⟩ := h2.obj; exact Heap.lt_size g
      rw [upd_ne (Nat.ne_of_lt hlt)]
      exact (hf b hb).1
  done := by
    intro X hP hw hK hc i pins s σ H E I hf st hg
    subst hP hw hK
    obtain ⟨hz, ht, ⟨x0, y0, hu⟩, h1, h2⟩ := st
    obtain ⟨xs, ys, hqx, hqy, hend⟩ := hg
    obtain ⟨fp1, n1, P1, S1, D1, t1, m1, _, ge1, le1, _, _, f1⟩ := src_draws I (I.ok.hd hc) hqx h1
    obtain ⟨fp2, n2, P2, S2, D2, t2, m2, _, ge2, le2, _, _, f2⟩ := src_draws I (I.ok.hd hc) hqy h2
    have sep := D.sep m1 m2 (fun b hb => (f1 b hb).imp id And.left) (fun b hb => (f2 b hb).imp id And.left)
    exact wpAny_pyNext_zipD2_end sep D1 D2 hz ht hu t1 t2 le1 le2 (hend.imp ge1 ge2) fun h' tk hk => ⟨rfl, I.turnedL (t' := tk) (ch := [z, ti, tu, p1, p2]) (fun b o hb q =>
      hk b o (fun r => hb (by simp [r])) (fun r => hb (by simp [r])) (fun r => hb (by simp [r])) (fun r => hb (by simp [r])) q) hf⟩
  self := fun A i s Q E st h => wpAny_pyIter_zip st.1 h
theorem src_lt {X : Cx} {pins : List (Addr × Obj)} {σ : L2.St} {H : Hp} {s : Shared} (I : Inv X pins σ H s) {src : Src} {xs : List V} (hs : SrcAt X.K H src xs) : ∀ a, src.adr = some a → a < s.heap.objs.size := fun a e => by
  cases src with
  | lst b =>
    cases e
    obtain ⟨its, rv, pl, hz⟩ := I.list hs
    exact pl.lt
  | tup b =>
    cases e
    obtain ⟨its, rv, pl, hz⟩ := I.tuple hs
    obtain ⟨o, ho, _⟩ := pl
    exact Heap.lt_size ho
  | txt x => cases e
theorem far_of {s1 s2 : Src} (n : Nat) (l1 : ∀ a, s1.adr = some a → a < n) (l2 : ∀ a, s2.adr = some a → a < n) : Far (n + 4) (n + 2) (n + 3) n (n + 1) s1 s2 := by
  have ne : ∀ {a b : Nat}, (a < b ∨ b < a) → a ≠ b := fun h => by omega
  refine ⟨ne (by omega), ne (by omega), ne (by omega), ne (by omega), ne (by omega), ne (by omega), ne (by omega), ne (by omega), ne (by omega), ne (by omega), fun a e => ?_, fun a e => ?_⟩
  · have := l1 a e
    exact ⟨ne (Or.inl (Nat.lt_of_lt_of_le this (Nat.le_add_right _ _))), ne (Or.inl (Nat.lt_of_lt_of_le this (Nat.le_add_right _ _))), ne (Or.inl (Nat.lt_of_lt_of_le this (Nat.le_add_right _ _)))⟩
  · have := l2 a e
    exact ⟨ne (Or.inl (Nat.lt_of_lt_of_le this (Nat.le_add_right _ _))), ne (Or.inl (Nat.lt_of_lt_of_le this (Nat.le_add_right _ _))), ne (Or.inl this)⟩
def iZipS (K : PySem.W.Frag) (ta : TA) : TI := fun σ H R => ta σ H fun vs H1 => ∃ s1 s2 xs ys, vs = [s1.val, s2.val] ∧ SrcAt K H1 s1 xs ∧ SrcAt K H1 s2 ys ∧ R (ItZ K s1 s2) H1
theorem vals_two {x y : V} {us : List Value} (r : Vals [x, y] us) : ∃ u v, us = [u, v] ∧ RelV x u ∧ RelV y v := by
  cases r with
  | cons r1 r2 =>
    cases r2 with
    | cons r2 r3 =>
      cases r3
      exact ⟨_, _, rfl, r1, r2⟩
theorem pi_zipS {X : Cx} {e e2 : Expr} {ta : TA} {p pos tpos : Pos} {elts : List Expr} {kk : Nat} (hg : Gl X "zip") (hm : X.mg "zip" = none) (ha : PA X [e, e2] ta)
    (hs : starEach [e, e2] X.env = (false, eval e X.env) :: starEach [e2] X.env) (hpl : (backTo pos (starEach [e2] X.env)).any (·.1) = false) : PI X (.Tuple elts kk tpos) (.Call (.Name "zip" p) [e, e2] [] pos) (iZipS X.K ta) := by
  refine ⟨fun pins s σ H R I h => ?_⟩
  refine Call_ (ld_blt I hg hm PyProof.Rows.boot_zip (PyProof.Rows.callWith_type1 (thn (ha.run pos pins s σ H _ I h) fun us st ⟨vs, H1, I1, r1, q1⟩ => ?_) hs hpl))
  obtain ⟨s1, s2, xs, ys, ex, hqx, hqy, q⟩ := q1
  subst ex
  obtain ⟨u1, u2, rfl, ru1, ru2⟩ := vals_two r1
  · obtain ⟨Hd1, B1, hB1, hit1⟩ := src_begins I1 hqx ru1
    obtain ⟨Hd2, B2, hB2, hit2⟩ := src_begins I1 hqy ru2
    refine zip_begins2 B1 B2 hB1 hB2 fun h' hz ht hu g1 g2 hsz hk => wpAny_pyIter_zip hz ?_
    have I2 : Inv X pins σ H1 { st with heap := h' } := I1.kept (t' := st.toks) hk
    have l1 := src_lt I1 hqx
    have l2 := src_lt I1 hqy
    have far := far_of (s1 := s1) (s2 := s2) st.heap.objs.size l1 l2
    refine ⟨st.heap.objs.size + 4, [st.heap.objs.size + 4, st.heap.objs.size + 2, st.heap.objs.size + 3, st.heap.objs.size, st.heap.objs.size + 1], _, _, H1, rfl, I2, turn_zipS far, ⟨hz, ht, ⟨_, _, hu⟩, hit1 _ _ g1, hit2 _ _ g2⟩, fun b hb => ?_, q⟩
    have e : b = st.heap.objs.size + 4 ∨ b = st.heap.objs.size + 2 ∨ b = st.heap.objs.size + 3 ∨ b = st.heap.objs.size ∨ b = st.heap.objs.size + 1 := by simpa using hb
    have hle : st.heap.objs.size ≤ b := by
      rcases e with z | z | z | z | z <;> rw [z]
      · exact Nat.le_add_right _ _
      · exact Nat.le_add_right _ _
      · exact Nat.le_add_right _ _
      · exact Nat.le_refl _
      · exact Nat.le_add_right _ _
    exact I1.fpOk hle (I1.hok.fresh hle)
/-! ### zip in the layer -/
def zipL (xs ys : List W) : List W := (xs.zip ys).map fun p => W.tup [p.1, p.2]
def zip2 (v1 v2 : View) : View := fun S => match v1 S, v2 S with
  | some xs, some ys => some (zipL xs ys)
  | _, _ => none
def zipV (ws : List W) : M View := fun S => match ws with
  | [a, b] => match seqV a S with
    | .ok v1 S1 => match seqV b S1 with
      | .ok v2 S2 => .ok (zip2 v1 v2) S2
      | _ => .bad
    | _ => .bad
  | _ => .bad
theorem zipL_len (xs ys : List W) : (zipL xs ys).length = min xs.length ys.length := by simp [zipL]
theorem zipL_get (xs ys : List W) (n : Nat) {w : W} (h : (zipL xs ys)[n]? = some w) : ∃ a b, xs[n]? = some a ∧ ys[n]? = some b ∧ w = .tup [a, b] := by
  unfold zipL at h
  rw [List.getElem?_map] at h
  cases q : (xs.zip ys)[n]? with
  | none => rw [q] at h; cases h
  | some p =>
    rw [q] at h
    cases h
    have := List.getElem?_zip_eq_some.mp q
    exact ⟨p.1, p.2, this.1, this.2, rfl⟩
theorem it_zipR {T : Tab} {K : PySem.W.Frag} {ad : List Addr} {H : Hp} {v1 v2 : View} {s1 s2 : Src} (r1 : RelSrc T K ad H v1 s1) (r2 : RelSrc T K ad H v2 s2) : RelIt T K ad H (zip2 v1 v2) (ItZ K s1 s2) := fun ad' H' S' l R ws hw n => by
  unfold zip2 at hw
  split at hw
  · rename_i xs ys q1 q2
    cases hw
    obtain ⟨us, hs1, rr1⟩ := r1 ad' H' S' l R xs q1
    obtain ⟨vs, hs2, rr2⟩ := r2 ad' H' S' l R ys q2
    refine ⟨fun hn => ?_, fun hn => ⟨us, vs, hs1, hs2, ?_⟩, fun x H2 y w hw2 => ?_⟩
    · rw [zipL_len] at hn
      obtain ⟨z1, hz1, _⟩ := rr1.get (List.getElem?_eq_getElem (show n < xs.length by omega))
      obtain ⟨z2, hz2, _⟩ := rr2.get (List.getElem?_eq_getElem (show n < ys.length by omega))
      exact ⟨us, vs, z1, z2, hs1, hs2, hz1, hz2⟩
    · rw [zipL_len] at hn
      rw [← rr1.length, ← rr2.length]
      omega
    · obtain ⟨a, z1, z2, rfl, ha, rfl, hz1, hz2⟩ := y
      obtain ⟨a1, a2, e1, e2, rfl⟩ := zipL_get xs ys n hw2
      obtain ⟨y1, hy1, ry1⟩ := rr1.get e1
      obtain ⟨y2, hy2, ry2⟩ := rr2.get e2
      have t1 := hz1 us hs1
      have t2 := hz2 vs hs2
      rw [hy1] at t1
      rw [hy2] at t2
      cases t1
      cases t2
      exact ⟨same_new ha, .tup (.inl (.inl upd_same)) (.cons (ry1.mono (Le.same0 (same_new ha))) (.cons (ry2.mono (Le.same0 (same_new ha))) .nil))⟩
  · cases hw
section
variable {m : Mo} {T : Tab} {k : Nat} {c t : Bool} {sc : Scope} {N ow : List Str} {a b : Expr} {fs : Slots → M (List W)}
theorem it_zip {elts : List Expr} {kk : Nat} {tpos p p2 : Pos} (hm : m.mg "zip" = none) (ha : SA m T k c t sc N ow [a, b] fs) (hg : sc.names.lookup ("zip" : Str) = some .globalImplicit := by rfl) (hs : ∀ env, starEach [a, b] env = (false, eval a env) :: starEach [b] env := by intro _; rfl)
    (hpl : ∀ env, (backTo p2 (starEach [b] env)).any (·.1) = false := by intro _; rfl) : SIt m T k c t sc N ow (.Tuple elts kk tpos) (.Call (.Name "zip" p) [a, b] [] p2) (fun sl => bd (fs sl) zipV) := fun X g Wx tk => by
  have em : X.mg = m.mg := by rw [← g.mo]; rfl
  have ek : X.K = m.K := by rw [← g.mo]; rfl
  have h1 := pi_zipS (elts := elts) (kk := kk) (tpos := tpos) (p := p) (pos := p2) (gl_of g hg) (by rw [em]; exact hm) (ha X g Wx tk) (hs _) (hpl _)
  refine ⟨fun pins s σ H R I h => h1.run pins s σ H R I ?_⟩
  obtain ⟨ad, S, sl, Re, L, h⟩ := h
  refine ⟨ad, S, sl, Re, L, runA_imp (bdA_runI h) ?_⟩
  rintro vs H1 ⟨ad1, S1, ws, l1, R1, r1, h1⟩
  unfold zipV at h1
  split at h1
  · rename_i w1 w2
    match vs, r1 with
    | [x1, x2], .cons rx1 (.cons rx2 .nil) =>
      split at h1
      · rename_i v1 S2 q1
        obtain ⟨rfl, src1, rfl, rs1, ws1, hw1⟩ := src_of R1 rx1 q1
        split at h1
        · rename_i v2 S3 q2
          obtain ⟨rfl, src2, rfl, rs2, ws2, hw2⟩ := src_of R1 rx2 q2
          obtain ⟨us1, hus1, _⟩ := rs1 ad1 H1 _ Le.refl.up R1 ws1 hw1
          obtain ⟨us2, hus2, _⟩ := rs2 ad1 H1 _ Le.refl.up R1 ws2 hw2
          rw [ek]
          exact ⟨src1, src2, us1, us2, rfl, hus1, hus2, h1 _ _ _ Le.refl R1 (it_zipR rs1 rs2)⟩
        · exact h1.elim
      · exact h1.elim
  · exact h1.elim
end
end RP

/-! RpW: name op= value. -/
namespace RP
open PySem L2
section
variable {m : Mo} {T : Tab} {k : Nat} {c t : Bool} {sc : Scope} {N ow : List Str} {e : Expr} {fe : Slots → M W}
theorem s_aug (i : Nat) {x : Str} {op : Operator} {gg : W → W → M W} {p1 pos : Pos} (he : SE m T k c t sc N ow e fe) (ho : SI m T k c t sc N ow op gg) (hi : N[i]? = some x := by rfl) (hx : LocO sc ow x := by first | exact Or.inl rfl | exact Or.inr ⟨rfl, by decide +kernel⟩) :
    SS m T k c t sc N ow (.AugAssign (.Name x p1) op e pos) (fun sl => exS sl (getSl i sl) fun w => exS sl (fe sl) fun y => exS sl (gg w y) fun z => RP.ret (.nx (sl.set i (some z)))) := fun X g Wx tk => by
  refine ⟨fun pins s σ H D I h => (ps_aug (i := i) (ti := r2 T m.K gg fun c d H' => Wx c d σ H') (by rw [g.hN]; exact g.nd) (by rw [g.hN]; exact hi) (loc_of g hx) (he X g Wx tk) (ho X g _) (hf_of g hx)).run pins s σ H D I ?_⟩
  obtain ⟨ad, S, sl, R, L, h⟩ := h
  cases q : sl[i]? with
  | none => simp only [exS, getSl, q] at h; exact h.elim
  | some o =>
    cases o with
    | none => simp only [exS, getSl, q] at h; exact h.elim
    | some w =>
      obtain ⟨v, hv, rv⟩ := L.get i w q
      have h : runS T m.K ad H (exS sl (fe sl) (fun y => exS sl (gg w y) fun z => RP.ret (.nx (sl.set i (some z)))) S) D Wx := by
        simp only [exS, getSl, q] at h ⊢
        exact h
      refine ⟨v, hv, ad, S, sl, R, L, run_imp (run_exS L h) ?_⟩
      rintro y H1 ⟨ad1, S1, w1, l1, R1, r1, h1⟩
      refine ⟨ad1, S1, w, w1, R1, rv.mono l1, r1, run_imp (run_exS (L.mono l1) h1) ?_⟩
      rintro z H2 ⟨ad2, S2, w2, l2, R2, r2, h2⟩
      exact runS_nx R2 (((L.mono l1).mono l2).set r2 i) h2
/-- list(range(n)) -/
def lrM (w : W) : M W := fun S => match w with
  | .int n => if 0 ≤ n ∧ n ≤ 16777216 then .ok (.ref S.length) (S ++ [.lst ((List.range n.toNat).map fun (i : Nat) => W.int i)]) else .bad
  | _ => .bad
theorem rel_range {K : PySem.W.Frag} {ad : List Addr} {H : Hp} : ∀ l : List Nat, RelWs K ad H (l.map fun (i : Nat) => W.int i) (l.map fun (i : Nat) => V.int (0 + (i : Nat)))
  | [] => .nil
  | n :: l => .cons (by show RelW K ad H (.int n) (.int (0 + (n : Int))); rw [Int.zero_add]; exact .int _) (rel_range l)
theorem e_lrng {a : Expr} {fa : Slots → M W} {p p2 pos pos2 : Pos} (hc : c = true) (hl : m.mg "list" = none) (hr : m.mg "range" = none) (ha : SE m T k c t sc N ow a fa) (gl : sc.names.lookup ("list" : Str) = some .globalImplicit := by rfl) (gr : sc.names.lookup ("range" : Str) = some .globalImplicit := by rfl)
    (na : ∀ env, starEach [a] env = (false, eval a env) :: starEach [] env := by intro _; rfl) (nb : ∀ env, starEach [(.Call (.Name "range" p2) [a] [] pos2 : Expr)] env = (false, eval (.Call (.Name "range" p2) [a] [] pos2) env) :: starEach [] env := by intro _; rfl) :
    SE m T k c t sc N ow (.Call (.Name "list" p) [.Call (.Name "range" p2) [a] [] pos2] [] pos) (fun sl => bd (fa sl) lrM) := fun X g Wx tk => by
  have em : X.mg = m.mg := by rw [← g.mo]; rfl
  refine (pe_listRg (p := p) (pos := pos) (g.calm hc) (gl_of g gl) (by rw [em]; exact hl) (prg_1 (p := p2) (pos := pos2) (gl_of g gr) (by rw [em]; exact hr) (ha X g Wx tk) (na _)) (nb _)).imp fun σ H Q h => ?_
  obtain ⟨ad, S, sl, R, L, h⟩ := h
  refine ⟨ad, S, sl, R, L, run_imp (run_bd h) ?_⟩
  rintro v H1 ⟨ad1, S1, w1, l1, R1, r1, h1⟩
  unfold lrM at h1
  split at h1
  · rename_i n
    split at h1
    · rename_i hn
      cases r1
      refine ⟨n, rfl, RgOk.of_le (by omega) hn.2 (by omega) hn.1, fun q hq => ?_⟩
      have e : rgV 0 n = (List.range n.toNat).map fun (i : Nat) => V.int (0 + (i : Nat)) := by unfold rgV; rw [Int.sub_zero]
      rw [e]
      exact run_newlst R1 hq (rel_range _) h1
    · exact h1.elim
  · exact h1.elim
end
end RP

/-! RpX: len(set(xs)) of whole numbers. -/
namespace RP
open PySem L2 PySem.Spec PyProof.Rows
/-- the numbers, each once, as they are met -/
def once (ns : List Int) : List Int := firstMet (fun i => ns.getD i 0) ns.length
theorem once_le (ns : List Int) : (once ns).length ≤ ns.length := firstMet_length_le _ _
def iLenSet (K : PySem.W.Frag) (ta : TE) : TE := fun σ H Q => ta σ H fun x H1 => ∃ (l : Addr) (ns : List Int), x = .ref l ∧ SqL K H1 l (ns.map V.int) ∧ ns.length ≤ 4000 ∧ Q (.int ((once ns).length : Nat)) H1
theorem pe_lenSet {X : Cx} {a : Expr} {ta : TE} {p p2 q pos : Pos} (hg : Gl X "len") (hm : X.mg "len" = none) (hg2 : Gl X "set") (hm2 : X.mg "set" = none) (ha : PE X a ta) (hc : X.calm = true)
    (na : starEach [a] X.env = (false, eval a X.env) :: starEach [] X.env) : PE X (.Call (.Name "len" p) [.Call (.Name "set" p2) [a] [] q] [] pos) (iLenSet X.K ta) := by
  refine ⟨fun pins s σ H Q I h => ?_⟩
  refine Call_ (ld_blt I hg hm boot_len ?_)
  refine PyProof.Rows.callWith_builtin1 (PyProof.Rows.args_cons ?_ rfl) rfl rfl
  refine Call_ (ld_blt I hg2 hm2 boot_set ?_)
  refine PyProof.Rows.callWith_type1 (PyProof.Rows.args_cons (thn (ha.run pins s σ H _ I h) fun v st ⟨x, H1, I1, rx, qx⟩ => PyProof.Rows.args_nil ?_) na) na rfl
  obtain ⟨l, ns, rfl, hq, hl, qx⟩ := qx
  cases rx
  obtain ⟨its, rv, pl, hz⟩ := I1.list hq
  have hlen : its.toArray.size = ns.length := by rw [List.size_toArray, ← rv.length, List.length_map]
  refine call_set_list (I1.ok.hd hc) pl.isList (by simpa using RZ.intsAre_vals rv) (by rw [hlen]; unfold scanBound; omega) fun h1 tk hS hk => ?_
  refine PyProof.Rows.args_nil ?_
  rw [hlen] at hS
  obtain ⟨o, es, ep, t, ho, hex, hd, _, _, _, hf, hn⟩ := hS
  have I2 : Inv X pins σ H1 { st with heap := h1, toks := tk } := I1.kept fun b o e => hk b o (Heap.lt_size e) e
  exact call_len_set ho hex hd hf (by rw [hn]; have := once_le ns; unfold once at this; omega) ⟨.int (once ns).length, H1, I2.tok _, ⟨_, by rw [hn]; rfl⟩, qx⟩
section
variable {m : Mo} {T : Tab} {k : Nat} {c t : Bool} {sc : Scope} {N ow : List Str} {a : Expr} {fa : Slots → M W}
def intsOf : List W → Option (List Int)
  | [] => some []
  | .int i :: r => (intsOf r).map (i :: ·)
  | _ => none
theorem intsOf_map : ∀ ns : List Int, intsOf (ns.map W.int) = some ns
  | [] => rfl
  | n :: ns => by simp only [List.map_cons, intsOf, intsOf_map ns]; rfl
theorem intsOf_rel {K : PySem.W.Frag} {ad : List Addr} {H : Hp} : ∀ {ws : List W} {vs : List V} {ns : List Int}, intsOf ws = some ns → RelWs K ad H ws vs → vs = ns.map V.int
  | [], _, _, e, .nil => by cases e; rfl
  | w :: ws, _, ns, e, .cons r rr => by
    cases w <;> simp only [intsOf] at e <;> try cases e
    cases r
    cases q : intsOf ws with
    | none => rw [q] at e; cases e
    | some cs =>
      rw [q] at e
      cases e
      rw [intsOf_rel q rr]
      rfl
def lenSetM (w : W) : M W := fun S => match w with
  | .ref i => match seqOf S i with
    | some xs => match intsOf xs with
      | some ns => if ns.length ≤ 4000 then .ok (.int (once ns).length) S else .bad
      | none => .bad
    | none => .bad
  | _ => .bad
theorem e_lenset {p p2 q pos : Pos} (hc : c = true) (hl : m.mg "len" = none) (hs : m.mg "set" = none) (ha : SE m T k c t sc N ow a fa) (gl : sc.names.lookup ("len" : Str) = some .globalImplicit := by rfl) (gs : sc.names.lookup ("set" : Str) = some .globalImplicit := by rfl)
    (na : ∀ env, starEach [a] env = (false, eval a env) :: starEach [] env := by intro _; rfl) : SE m T k c t sc N ow (.Call (.Name "len" p) [.Call (.Name "set" p2) [a] [] q] [] pos) (fun sl => bd (fa sl) lenSetM) := fun X g Wx tk => by
  have em : X.mg = m.mg := by rw [← g.mo]; rfl
  have ek : X.K = m.K := by rw [← g.mo]; rfl
  refine (pe_lenSet (p := p) (p2 := p2) (q := q) (pos := pos) (gl_of g gl) (by rw [em]; exact hl) (gl_of g gs) (by rw [em]; exact hs) (ha X g Wx tk) (g.calm hc) (na _)).imp fun σ H Q h => ?_
  obtain ⟨ad, S, sl, R, L, h⟩ := h
  refine ⟨ad, S, sl, R, L, run_imp (run_bd h) ?_⟩
  rintro v H1 ⟨ad1, S1, w1, l1, R1, r1, h1⟩
  unfold lenSetM at h1
  split at h1
  · split at h1
    · rename_i xs hx
      split at h1
      · rename_i ns hn
        split at h1
        · rename_i hz
          cases r1 with
          | ref e1 =>
          obtain ⟨vs, hq, r2⟩ := R1.seq e1 hx
          rw [intsOf_rel hn r2] at hq
          rw [ek]
          exact ⟨_, ns, rfl, hq, hz, run_ok R1 (.int _) h1⟩
        · exact h1.elim
      · exact h1.elim
    · exact h1.elim
  · exact h1.elim
end
end RP

/-! RpY: x in xs, by data of any depth. -/
namespace RP
open PySem L2
def inD (S : Sto) (x y : W) : Option Bool := match dat 9 S x, dat 9 S y with
  | some d, some (.list ds) => if SeqAt.shaped d && SeqAt.shaped (.list ds) then some (ds.any fun z => PyData.eqv z d) else none
  | _, _ => none
def pyInD (x y : W) : M W := fun S => match inD S x y with
  | some b => .ok (.bl b) S
  | none => .bad
def pyNotInD (x y : W) : M W := fun S => match inD S x y with
  | some b => .ok (.bl (!b)) S
  | none => .bad
section
variable {m : Mo} {T : Tab} {k : Nat} {c t : Bool} {sc : Scope} {N ow : List Str}
theorem inD_of {K : PySem.W.Frag} {ad : List Addr} {H : Hp} {S : Sto} {x y : W} {v u : V} {b : Bool} (R : Rel T K ad H S) (rx : RelW K ad H x v) (ry : RelW K ad H y u) (e : inD S x y = some b) :
    ∃ d ds, Dp K H v d ∧ Dp K H u (.list ds) ∧ SeqAt.shaped d = true ∧ SeqAt.shaped (.list ds) = true ∧ b = ds.any fun z => PyData.eqv z d := by
  unfold inD at e
  split at e
  · rename_i d ds h1 h2
    split at e
    · rename_i hs
      cases e
      simp only [Bool.and_eq_true] at hs
      exact ⟨d, ds, dat_dp R 9 _ _ _ h1 rx, dat_dp R 9 _ _ _ h2 ry, hs.1, hs.2, rfl⟩
    · cases e
  · cases e
theorem c_inD (hc : c = true) : SC m T k c t sc N ow .In pyInD := .of fun X g E pins s σ H x y v u Q I rx ry ⟨ad, S, w, z, R, rw', rz, h⟩ => by
  have hu : X.A.units + 65 < cLine := by have := (g.room hc).un; omega
  obtain ⟨rfl, _⟩ := g
  unfold pyInD at h
  split at h
  · rename_i b e
    have h := run_ok R (.bl b) h
    obtain ⟨d, ds, h1, h2, h3, h4, rfl⟩ := inD_of R rw' rz e
    exact op_inD hu pins s σ H _ _ v u Q I rx ry ⟨d, ds, h1, h2, h3, h4, h⟩
  · exact h.elim
theorem c_notinD (hc : c = true) : SC m T k c t sc N ow .NotIn pyNotInD := .of fun X g E pins s σ H x y v u Q I rx ry ⟨ad, S, w, z, R, rw', rz, h⟩ => by
  have hu : X.A.units + 65 < cLine := by have := (g.room hc).un; omega
  obtain ⟨rfl, _⟩ := g
  unfold pyNotInD at h
  split at h
  · rename_i b e
    have h := run_ok R (.bl (!b)) h
    obtain ⟨d, ds, h1, h2, h3, h4, rfl⟩ := inD_of R rw' rz e
    exact op_notInD hu pins s σ H _ _ v u Q I rx ry ⟨d, ds, h1, h2, h3, h4, h⟩
  · exact h.elim
end
end RP

/-! RpZ: what a value is as data; how data are compared. -/
namespace RP
open PySem L2
theorem dat_more {S : Sto} : ∀ (n : Nat) (w : W) (d : PyData), dat n S w = some d → dat (n + 1) S w = some d := by
  intro n
  have all : ∀ n, (∀ (w : W) (d : PyData), dat n S w = some d → dat (n + 1) S w = some d) → ∀ (ws : List W) (ds : List PyData), ws.mapM (dat n S) = some ds → ws.mapM (dat (n + 1) S) = some ds := by
    intro n ih ws
    induction ws with
    | nil => intro ds h; simpa using h
    | cons w ws iw =>
      intro ds h
      rw [List.mapM_cons] at h ⊢
      cases q : dat n S w with
      | none => rw [q] at h; cases h
      | some d =>
        rw [q] at h
        cases q2 : ws.mapM (dat n S) with
        | none => rw [q2] at h; cases h
        | some es =>
          rw [q2] at h
          rw [ih w d q, iw es q2]
          exact h
  induction n with
  | zero =>
    intro w d h
    cases w <;> first | exact h | (unfold dat at h; cases h)
  | succ n ih =>
    intro w d h
    cases w with
    | tup xs =>
      unfold dat at h ⊢
      cases q : xs.mapM (dat n S) with
      | none => rw [q] at h; cases h
      | some ds => rw [q] at h; rw [all n ih xs ds q]; exact h
    | ref i =>
      unfold dat at h ⊢
      cases e : S[i]? with
      | none => rw [e] at h; cases h
      | some o =>
        rw [e] at h
        cases o with
        | lst xs =>
          simp only at h ⊢
          cases q : xs.mapM (dat n S) with
          | none => rw [q] at h; cases h
          | some ds => rw [q] at h; rw [all n ih xs ds q]; exact h
        | _ => cases h
    | _ => first | exact h | (unfold dat at h; cases h)
/-- the value w is, in the state, the data d of depth n at most -/
structure Dm (n : Nat) (S : Sto) (w : W) (d : PyData) : Prop where
  e : dat n S w = some d
  c : d.canLay0 = true
  p : d.depth ≤ n
section
variable {S : Sto} {n : Nat} {α : Type}
theorem Dm.int (i : Int) : Dm n S (.int i) (.int i) := ⟨by cases n <;> rfl, rfl, Nat.zero_le _⟩
theorem Dm.non : Dm n S .non .none := ⟨by cases n <;> rfl, rfl, Nat.zero_le _⟩
theorem Dm.bl (b : Bool) : Dm n S (.bl b) (.bool b) := ⟨by cases n <;> rfl, rfl, Nat.zero_le _⟩
theorem Dm.str {x : Str} (h : PyData.strOk x = true) : Dm n S (.str x) (.str x) := ⟨by cases n <;> rfl, h, Nat.zero_le _⟩
theorem lay_map {g : α → PyData} : ∀ {l : List α}, (∀ a ∈ l, (g a).canLay0 = true) → PyData.canLayAll0 (l.map g) = true
  | [], _ => rfl
  | a :: l, h => by
    rw [List.map_cons, PyData.canLayAll0, h a (by simp), lay_map fun b hb => h b (by simp [hb])]
    rfl
theorem deep_map {g : α → PyData} : ∀ {l : List α}, (∀ a ∈ l, (g a).depth ≤ n) → PyData.depthAll (l.map g) ≤ n
  | [], _ => Nat.zero_le _
  | a :: l, h => by
    have h1 := h a (by simp)
    have h2 := deep_map (g := g) (l := l) fun b hb => h b (by simp [hb])
    rw [List.map_cons, PyData.depthAll]
    omega
theorem dat_map {f : α → W} {g : α → PyData} : ∀ {l : List α}, (∀ a ∈ l, dat n S (f a) = some (g a)) → (l.map f).mapM (dat n S) = some (l.map g)
  | [], _ => by simp
  | a :: l, h => by
    rw [List.map_cons, List.mapM_cons, h a (by simp), dat_map (l := l) fun b hb => h b (by simp [hb])]
    rfl
theorem Dm.tup {f : α → W} {g : α → PyData} {l : List α} (h : ∀ a ∈ l, Dm n S (f a) (g a)) : Dm (n + 1) S (.tup (l.map f)) (.tuple (l.map g)) := by
  refine ⟨?_, lay_map fun a ha => (h a ha).c, ?_⟩
  · unfold dat
    rw [dat_map fun a ha => (h a ha).e]
    rfl
  · rw [PyData.depth]
    have := deep_map (n := n) fun a ha => (h a ha).p
    omega
theorem Dm.lst {f : α → W} {g : α → PyData} {l : List α} {i : Nat} (hi : S[i]? = some (.lst (l.map f))) (h : ∀ a ∈ l, Dm n S (f a) (g a)) : Dm (n + 1) S (.ref i) (.list (l.map g)) := by
  refine ⟨?_, lay_map fun a ha => (h a ha).c, ?_⟩
  · unfold dat
    rw [hi]
    simp only
    rw [dat_map fun a ha => (h a ha).e]
    rfl
  · rw [PyData.depth]
    have := deep_map (n := n) fun a ha => (h a ha).p
    omega
theorem Dm.nil {i : Nat} (hi : S[i]? = some (.lst [])) : Dm (n + 1) S (.ref i) (.list []) := Dm.lst (α := Unit) (f := fun _ => .non) (g := fun _ => .none) (l := []) hi (fun a h => nomatch h)
theorem Dm.more {w : W} {d : PyData} (h : Dm n S w d) : Dm (n + 1) S w d := ⟨dat_more n w d h.e, h.c, by have := h.p; omega⟩
theorem Dm.to {w : W} {d : PyData} (h : Dm n S w d) : ∀ k, Dm (n + k) S w d
  | 0 => h
  | k + 1 => (h.to k).more
theorem Dm.at9 {w : W} {d : PyData} (h : Dm n S w d) (hn : n ≤ 9) : Dm 9 S w d := by
  have := h.to (9 - n)
  rwa [show n + (9 - n) = 9 by omega] at this
theorem Dm.sh {w : W} {d : PyData} (h : Dm 9 S w d) : SeqAt.shaped d = true := by
  have := h.p
  exact Bool.and_eq_true_iff.mpr ⟨h.c, decide_eq_true (by omega)⟩
theorem Dm.eqw {x y : W} {d d' : PyData} (h : Dm 9 S x d) (h' : Dm 9 S y d') : eqW S x y = some (PyData.eqv d d') := by
  have main : (match dat 9 S x, dat 9 S y with
    | some d, some e => if SeqAt.shaped d && SeqAt.shaped e then some (PyData.eqv d e) else none
    | _, _ => none) = some (PyData.eqv d d') := by simp only [h.e, h'.e, h.sh, h'.sh, Bool.and_self, if_true]
  have e1 := h.e
  have e2 := h'.e
  unfold eqW
  split <;> first
    | exact main
    | (unfold dat at e1 e2; cases e1; cases e2; simp [PyData.eqv, Bool.beq_eq_decide_eq]; try rfl)
theorem Dm.eq {x y : W} {d d' : PyData} {b : Bool} (h : Dm 9 S x d) (h' : Dm 9 S y d') (e : PyData.eqv d d' = b) : pyEq x y S = .ok (.bl b) S := by simp only [pyEq, h.eqw h', e]
theorem Dm.ne {x y : W} {d d' : PyData} {b : Bool} (h : Dm 9 S x d) (h' : Dm 9 S y d') (e : PyData.eqv d d' = b) : pyNe x y S = .ok (.bl (!b)) S := by simp only [pyNe, h.eqw h', e]
theorem Dm.same {x y : W} {d : PyData} (h : Dm 9 S x d) (h' : Dm 9 S y d) : pyEq x y S = .ok (.bl true) S := h.eq h' (SeqAt.eqv_refl d h.c)
theorem Dm.sameN {x y : W} {d : PyData} (h : Dm 9 S x d) (h' : Dm 9 S y d) : pyNe x y S = .ok (.bl false) S := h.ne h' (SeqAt.eqv_refl d h.c)
theorem Dm.isin {x y : W} {d : PyData} {ds : List PyData} (h : Dm 9 S x d) (h' : Dm 9 S y (.list ds)) : inD S x y = some (ds.any fun z => PyData.eqv z d) := by
  simp only [inD, h.e, h'.e, h.sh, h'.sh, Bool.and_self, if_true]
/-- data that tell apart -/
def Tells (α : Type) [DecidableEq α] (g : α → PyData) : Prop := ∀ a b, PyData.eqv (g a) (g b) = decide (a = b)
theorem tells_int : Tells Int PyData.int := fun a b => by rw [PyData.eqv]; by_cases h : a = b <;> simp [h]
theorem tells_str : Tells Str PyData.str := fun a b => by rw [PyData.eqv]; by_cases h : a = b <;> simp [h]
theorem tells_all {α : Type} [DecidableEq α] {g : α → PyData} (t : Tells α g) : ∀ l l' : List α, PyData.eqvAll (l.map g) (l'.map g) = decide (l = l')
  | [], [] => rfl
  | [], _ :: _ => rfl
  | _ :: _, [] => rfl
  | a :: l, b :: l' => by
    rw [List.map_cons, List.map_cons, PyData.eqvAll, t a b, tells_all t l l']
    by_cases h : a = b <;> by_cases h' : l = l' <;> simp [h, h']
theorem tells_tup {α : Type} [DecidableEq α] {g : α → PyData} (t : Tells α g) : Tells (List α) fun l => .tuple (l.map g) := fun a b => by rw [PyData.eqv]; exact tells_all t a b
theorem tells_lst {α : Type} [DecidableEq α] {g : α → PyData} (t : Tells α g) : Tells (List α) fun l => .list (l.map g) := fun a b => by rw [PyData.eqv]; exact tells_all t a b
theorem eqv_nil (ds : List PyData) : PyData.eqv (.list ds) (.list []) = ds.isEmpty := by
  rw [PyData.eqv]
  cases ds <;> rfl
end
end RP

namespace RP
open PySem PyProof.Rows
theorem getD_app {α : Type} (o t : List α) (d : α) (k : Nat) (h : k < o.length) : (o ++ t).getD k d = o.getD k d := by
  rw [List.getD_eq_getElem?_getD, List.getD_eq_getElem?_getD, List.getElem?_append_left h]
/-! ### all tuples of strides -/
def ev (w : Nat) (p : Nat → Nat → Bool) : Nat → List (List Nat)
  | 0 => [[]]
  | n + 1 => (ev w p n).flatMap fun o => ((List.range w).filter (p n)).map fun s => o ++ [s]
def evRow (w : Nat) (p : Nat → Nat → Bool) (r : Nat) : List Nat := (List.range w).filter (p r)
section
variable {w : Nat} {p : Nat → Nat → Bool}
theorem ev_len : ∀ {n : Nat} {o : List Nat}, o ∈ ev w p n → o.length = n
  | 0, o, h => by rw [ev, List.mem_singleton] at h; rw [h]; rfl
  | n + 1, o, h => by
    rw [ev, List.mem_flatMap] at h
    obtain ⟨o', h1, h2⟩ := h
    obtain ⟨s, _, rfl⟩ := List.mem_map.mp h2
    rw [List.length_append, ev_len h1]
    rfl
theorem ev_lt : ∀ {n : Nat} {o : List Nat}, o ∈ ev w p n → ∀ s ∈ o, s < w
  | 0, o, h => by rw [ev, List.mem_singleton] at h; rw [h]; intro s hs; cases hs
  | n + 1, o, h => by
    rw [ev, List.mem_flatMap] at h
    obtain ⟨o', h1, h2⟩ := h
    obtain ⟨s, hs, rfl⟩ := List.mem_map.mp h2
    intro s' hs'
    rcases List.mem_append.mp hs' with h' | h'
    · exact ev_lt h1 s' h'
    · rw [List.mem_singleton.mp h']
      exact List.mem_range.mp (List.mem_filter.mp hs).1
def okAll (p : Nat → Nat → Bool) (n : Nat) (o : List Nat) : Bool := (List.range n).all fun r => p r (o.getD r 0)
theorem okAll_snoc {n : Nat} {o : List Nat} {s : Nat} (h : o.length = n) : okAll p (n + 1) (o ++ [s]) = (okAll p n o && p n s) := by
  unfold okAll
  rw [List.range_succ, List.all_append]
  congr 1
  · rw [Bool.eq_iff_iff, List.all_eq_true, List.all_eq_true]
    constructor
    · intro q r hr
      have := q r hr
      rw [getD_app _ _ _ _ (by rw [h]; exact List.mem_range.mp hr)] at this
      exact this
    · intro q r hr
      rw [getD_app _ _ _ _ (by rw [h]; exact List.mem_range.mp hr)]
      exact q r hr
  · simp [List.getD_eq_getElem?_getD, h]
theorem ev_filter : ∀ n : Nat, (ev w (fun _ _ => true) n).filter (okAll p n) = ev w p n
  | 0 => rfl
  | n + 1 => by
    rw [ev, ev, ← ev_filter n, List.filter_flatMap]
    have e : ∀ l : List (List Nat), (∀ o ∈ l, o.length = n) → (l.flatMap fun o => (((List.range w).filter fun _ => true).map fun s => o ++ [s]).filter (okAll p (n + 1))) = (l.filter (okAll p n)).flatMap fun o => ((List.range w).filter (p n)).map fun s => o ++ [s] := by
      intro l
      induction l with
      | nil => intro _; rfl
      | cons o l ih =>
        intro hl
        have h0 := hl o (by simp)
        rw [List.flatMap_cons, ih fun o' h' => hl o' (by simp [h'])]
        have e1 : (((List.range w).filter fun _ => true).map fun s => o ++ [s]).filter (okAll p (n + 1)) = if okAll p n o = true then ((List.range w).filter (p n)).map fun s => o ++ [s] else [] := by
          rw [List.filter_map]
          have : ((okAll p (n + 1)) ∘ fun s => o ++ [s]) = fun s => okAll p n o && p n s := funext fun s => okAll_snoc h0
          rw [this]
          by_cases hk : okAll p n o = true
          · simp [hk]
          · simp [hk]
        rw [e1]
        by_cases hk : okAll p n o = true
        · rw [if_pos hk, List.filter_cons_of_pos hk, List.flatMap_cons]
        · rw [if_neg hk, List.filter_cons_of_neg hk, List.nil_append]
    exact e _ fun o ho => ev_len ho
theorem flat_len {α β : Type} (f : α → List β) (k : Nat) : ∀ l : List α, (∀ a ∈ l, (f a).length = k) → (l.flatMap f).length = l.length * k
  | [], _ => by simp
  | a :: l, h => by
    rw [List.flatMap_cons, List.length_append, h a (by simp), flat_len f k l fun b hb => h b (by simp [hb]), List.length_cons, Nat.succ_mul]
    omega
def evCnt (w : Nat) (p : Nat → Nat → Bool) : Nat → Nat
  | 0 => 1
  | n + 1 => evCnt w p n * (evRow w p n).length
theorem ev_count : ∀ n : Nat, (ev w p n).length = evCnt w p n
  | 0 => rfl
  | n + 1 => by
    rw [ev, flat_len _ (evRow w p n).length, ev_count n, evCnt]
    intro a _
    rw [List.length_map]
    rfl
theorem evRow_le (r : Nat) : (evRow w p r).length ≤ w := by
  have := List.length_filter_le (p r) (List.range w)
  rwa [List.length_range] at this
theorem evCnt_le : ∀ n : Nat, evCnt w p n ≤ w ^ n
  | 0 => Nat.le_refl _
  | n + 1 => by
    rw [evCnt, Nat.pow_succ]
    exact Nat.mul_le_mul (evCnt_le n) (evRow_le n)
theorem ev_nil : ∀ n : Nat, ev w p n = [] ↔ ∃ r, r < n ∧ evRow w p r = []
  | 0 => by
    constructor
    · intro h; cases h
    · rintro ⟨r, h, _⟩; omega
  | n + 1 => by
    constructor
    · intro h
      by_cases hr : evRow w p n = []
      · exact ⟨n, by omega, hr⟩
      · cases q : ev w p n with
        | nil =>
          obtain ⟨r, h1, h2⟩ := (ev_nil n).mp q
          exact ⟨r, by omega, h2⟩
        | cons o t =>
          rw [ev, q, List.flatMap_cons] at h
          have := (List.append_eq_nil_iff.mp h).1
          exact absurd (List.map_eq_nil_iff.mp this) hr
    · rintro ⟨r, h1, h2⟩
      by_cases e : r = n
      · subst e
        rw [ev]
        have : (List.range w).filter (p r) = [] := h2
        rw [this]
        simp
      · have := (ev_nil n).mpr ⟨r, by omega, h2⟩
        rw [ev, this]
        rfl
def firsts (w : Nat) (p : Nat → Nat → Bool) (n : Nat) : List Nat := (List.range n).map fun r => (evRow w p r).headD 0
theorem ev_head : ∀ n : Nat, (∀ r, r < n → evRow w p r ≠ []) → ∃ t, ev w p n = firsts w p n :: t
  | 0, _ => ⟨[], rfl⟩
  | n + 1, h => by
    obtain ⟨t, e⟩ := ev_head n fun r hr => h r (by omega)
    cases q : evRow w p n with
    | nil => exact absurd q (h n (by omega))
    | cons s ss =>
      refine ⟨(ss.map fun s => firsts w p n ++ [s]) ++ t.flatMap fun o => ((List.range w).filter (p n)).map fun s => o ++ [s], ?_⟩
      have q' : (List.range w).filter (p n) = s :: ss := q
      rw [ev, e, List.flatMap_cons, q', List.map_cons, List.cons_append]
      congr 1
      unfold firsts
      rw [List.range_succ, List.map_append, List.map_singleton, q]
      rfl
theorem ev_at {n k : Nat} {o : List Nat} (h : o ∈ ev w p n) (hk : k < n) : o.getD k 0 ∈ evRow w p k := by
  rw [← ev_filter n] at h
  obtain ⟨h1, h2⟩ := List.mem_filter.mp h
  have hl := ev_len h1
  have := List.all_eq_true.mp h2 k (List.mem_range.mpr hk)
  refine List.mem_filter.mpr ⟨List.mem_range.mpr (ev_lt h1 _ ?_), this⟩
  rw [List.getD_eq_getElem?_getD, List.getElem?_eq_getElem (by omega)]
  exact List.getElem_mem _
theorem ev_has : ∀ {n k : Nat}, (∀ r, r < n → evRow w p r ≠ []) → k < n → ∀ s ∈ evRow w p k, ∃ o ∈ ev w p n, o.getD k 0 = s
  | 0, _, _, h, _, _ => by omega
  | n + 1, k, h, hk, s, hs => by
    by_cases e : k = n
    · subst e
      obtain ⟨t, e⟩ := ev_head k fun r hr => h r (by omega)
      refine ⟨firsts w p k ++ [s], ?_, ?_⟩
      · rw [ev, e, List.flatMap_cons]
        exact List.mem_append_left _ (List.mem_map.mpr ⟨s, hs, rfl⟩)
      · have : (firsts w p k).length = k := by simp [firsts]
        simp [List.getD_eq_getElem?_getD, this]
    · obtain ⟨o, h1, h2⟩ := ev_has (n := n) (fun r hr => h r (by omega)) (by omega) s hs
      cases q : evRow w p n with
      | nil => exact absurd q (h n (by omega))
      | cons s' ss =>
        refine ⟨o ++ [s'], ?_, ?_⟩
        · rw [ev]
          refine List.mem_flatMap.mpr ⟨o, h1, List.mem_map.mpr ⟨s', ?_, rfl⟩⟩
          have : s' ∈ evRow w p n := by rw [q]; simp
          exact this
        · rw [getD_app _ _ _ _ (by rw [ev_len h1]; omega)]
          exact h2
end
/-! ### each once -/
theorem once_fold (ns : List Int) : once ns = ns.foldl step_dedup [] := by
  unfold once firstMet
  congr 1
  apply List.ext_getElem?
  intro i
  rw [List.getElem?_map]
  by_cases h : i < ns.length
  · rw [List.getElem?_range h, Option.map_some, List.getD_eq_getElem?_getD, List.getElem?_eq_getElem h]
    rfl
  · rw [List.getElem?_eq_none (by simpa using h), List.getElem?_eq_none (by omega)]
    rfl
theorem once_mem (ns : List Int) (a : Int) : a ∈ once ns ↔ a ∈ ns := by
  have h : ∀ (l acc : List Int), a ∈ l.foldl step_dedup acc ↔ a ∈ acc ∨ a ∈ l := by
    intro l
    induction l with
    | nil => intro acc; simp
    | cons b l ih =>
      intro acc
      rw [List.foldl_cons, ih]
      unfold step_dedup
      split
      · rename_i hb
        have hb' : b ∈ acc := by simpa using hb
        constructor
        · rintro (h | h)
          · exact .inl h
          · exact .inr (List.mem_cons_of_mem _ h)
        · rintro (h | h)
          · exact .inl h
          · rcases List.mem_cons.mp h with rfl | h
            · exact .inl hb'
            · exact .inr h
      · simp [or_assoc]
  rw [once_fold, h]
  simp
theorem once_nodup (ns : List Int) : (once ns).Nodup := by
  have h : ∀ (l acc : List Int), acc.Nodup → (l.foldl step_dedup acc).Nodup := by
    intro l
    induction l with
    | nil => intro acc h; exact h
    | cons b l ih =>
      intro acc h
      rw [List.foldl_cons]
      apply ih
      unfold step_dedup
      split
      · exact h
      · rename_i hb
        have hb' : b ∉ acc := by simpa using hb
        rw [List.nodup_append]
        refine ⟨h, by simp, ?_⟩
        intro x hx y hy e
        rw [List.mem_singleton.mp hy] at e
        subst e
        exact hb' hx
  rw [once_fold]
  exact h ns [] (by simp)
/-- as many as another list without doublets that has the same -/
theorem nodup_len {α : Type} [DecidableEq α] {l l' : List α} (h : l.Nodup) (h' : l'.Nodup) (e : ∀ a, a ∈ l ↔ a ∈ l') : l.length = l'.length := by
  have p : l.Perm l' := (List.perm_ext_iff_of_nodup h h').mpr e
  exact p.length_eq
theorem once_same {ns : List Int} {row : List Int} (h : row.Nodup) (e : ∀ a, a ∈ ns ↔ a ∈ row) : (once ns).length = row.length := nodup_len (once_nodup ns) h fun a => (once_mem ns a).trans (e a)
end RP

/-! RpAA: list.index of flat things; tuple * int; while by a bound. -/
namespace RP
open PySem L2 PySem.Spec PyProof.Rows
section
variable {m : Mo} {T : Tab} {k : Nat} {c t : Bool} {sc : Scope} {N ow : List Str}
def lindexM (w : W) (ws : List W) : M W := fun S => match w, ws with
  | .ref i, [y] => match S[i]? with
    | some (.lst xs) => if flatW y && xs.all flatW then (match xs.findIdx? (fun z => eqF z y) with
      | some j => .ok (.int j) S
      | none => .bad) else .bad
    | _ => .bad
  | _, _ => .bad
theorem m_lindex : SM m T k c t sc N ow "list.index" lindexM := fun X g E pins s σ H x xs v us Q I rx rs ⟨ad, S, w, ws, R, rw', rws, h⟩ => by
  obtain ⟨rfl, _⟩ := g
  unfold lindexM at h
  split at h
  · cases rw' with
    | ref e1 =>
    match xs, rws with
    | [_], .cons ry .nil =>
      split at h
      · rename_i ys hs
        split at h
        · rename_i hz
          split at h
          · rename_i j hj
            simp only [Bool.and_eq_true] at hz
            obtain ⟨vs, q, r2⟩ := R.lst e1 hs
            obtain ⟨hl, h1, h2⟩ := List.findIdx?_eq_some_iff_getElem.mp hj
            obtain ⟨z, hz1, rz⟩ := r2.get (List.getElem?_eq_getElem hl)
            refine mt_index pins s σ H _ _ v us Q I rx rs ⟨_, vs, _, j, z, rfl, rfl, SqL.of q, by rw [flat_of ry]; exact hz.1, by rw [flats_of r2]; exact hz.2, hz1, by rw [eqF_of rz ry]; exact h1, fun n z' hn hz' => ?_, run_ok R (.int _) h⟩
            obtain ⟨w', hw', rw''⟩ := r2.getV hz'
            rw [eqF_of rw'' ry]
            have := h2 n hn
            rw [List.getElem?_eq_getElem (by omega)] at hw'
            rw [← Option.some.inj hw']
            simpa using this
          · exact h.elim
        · exact h.elim
      · exact h.elim
  · exact h.elim
theorem tupTimes1 (p : Addr) (its : Array Value) (nn : Nat) (dct : Option Addr) (slts : Array (Option Value)) (tk1 : Tok) :
    Meets (Builtin.«tuple.__mul__» ⟨[.ref p, .int 1 tk1], []⟩) (fun _ R s => s.heap.get? p = some { cls := .type "tuple", dict := dct, data := .seq its nn, slots := slts } ∧ R (.ok (.ret (Value.ref p))) s) :=
  .of_wp fun pr wo Ar R s h => by
    obtain ⟨hp, gg, dd, tk, os⟩ := s
    obtain ⟨hp1, h⟩ := h
    have f1 := AutoSeq1.idx_int
    have k1 : (its.isEmpty || (1 : Int) == 1) = true := by simp
    wp_walk using wpAny_loadPart' hp1
    repeat (first
      | (refine wpAny_ite_true (decide_eq_true k1) ?_; wp_walk using wpAny_loadPart' hp1)
      | (refine wpAny_ite_false (by decide) ?_; wp_walk using wpAny_loadPart' hp1)
      | (refine wpAny_ite_true (by decide) ?_; wp_walk using wpAny_loadPart' hp1))
    exact ⟨_, rfl, h⟩
theorem opTimes1 {X : Cx} : OpR X (binaryOp .Mult) (fun x y H Q => ∃ p xs, x = .ref p ∧ y = .int 1 ∧ SqT X.K H p xs ∧ Q (.ref p) H) := by
  intro pins s σ H x y v u Q I rx ry h
  obtain ⟨p, xs, rfl, rfl, hT, q⟩ := h
  cases rx
  obtain ⟨tk1, rfl⟩ := ry
  obtain ⟨its, _, ⟨⟨cl, dct, dta, slts⟩, ob, hcl, nn, hdt⟩, _⟩ := I.tuple hT
  simp only at hcl hdt
  subst hcl hdt
  exact wpAny_binaryOp_repeat_ref (T := "tuple") (U := "int") (by decide) ⟨_, ob, rfl⟩ (fun st => typeIs_int st 1 tk1) noFill_tuple_mul F.fills_int_mul F.slot_int_rmul repeat_tuple F.slot_int_index.lookup
    (call_meets F.slot_int_rmul (typeIs_int s 1 tk1) F.entry_int_rmul (F.args_int_rmul_2 _ _) (int_rmul_tuple 1 tk1 p its.toArray nn dct slts)
      ⟨ob, rfl, ⟨_, ob, rfl⟩, call_meets F.slot_tuple_mul ⟨_, ob, rfl⟩ F.entry_tuple_mul (F.args_tuple_mul_2 _ _) (tupTimes1 p its.toArray nn dct slts tk1) ⟨ob, ⟨.ref p, H, I, rfl, q⟩⟩⟩)
def pyMulT (x y : W) : M W := fun S => match x, y with
  | .tup xs, .int n => if xs.isEmpty = false ∧ 1 ≤ n ∧ n ≤ 1000 ∧ xs.length ≤ 1000 then .ok (.tup (List.replicate n.toNat xs).flatten) S else .bad
  | _, _ => .bad
theorem o_mulT : S2 m T k c t sc N ow .Mult pyMulT := by
  intro X g E pins s σ H x y v u Q I rx ry ⟨ad, S, w, z, R, rw, rz, h⟩
  obtain ⟨rfl, _⟩ := g
  unfold pyMulT at h
  split at h
  · rename_i xs n
    split at h
    · rename_i hc
      cases rw with
      | tup s1 r1 =>
      cases rz
      by_cases h1 : n = 1
      · subst h1
        refine opTimes1 pins s σ H _ _ v u Q I rx ry ⟨_, _, rfl, rfl, s1, ?_⟩
        have e : (List.replicate (1 : Int).toNat xs).flatten = xs := by simp
        rw [e] at h
        exact run_ok R (.tup s1 r1) h
      · have hne : xs ≠ [] := fun z => by rw [z] at hc; simp at hc
        exact op_repT pins s σ H _ _ v u Q I rx ry ⟨_, _, _, rfl, rfl, s1, fun z => hne (List.eq_nil_of_length_eq_zero (by rw [r1.length, z]; rfl)), by omega, hc.2.2.1, by rw [← r1.length]; exact hc.2.2.2, fun p hp => run_newtup R hp (relWs_rep r1 _) h⟩
    · exact h.elim
  · exact h.elim
end
/-- a loop that ends: n counts its turns -/
theorem hos_while {cc : Slots → M Bool} {body : Slots → M Fl} {R : Fl → Sto → Prop} {F : XS} (P : Nat → Slots → Sto → Prop)
    (step : ∀ n sl S, P n sl S → Ho (cc sl S) (fun b S1 => match b with
      | false => R (.nx sl) S1
      | true => HoS (body sl S1) (stp P n R) F) fun x S' => F x sl S') (N : Nat) (hN : ∀ sl S, ¬ P N sl S) :
    ∀ (f n : Nat) (sl : Slots) (S : Sto), n < N → N < n + f → P n sl S → HoS (whileM cc body f sl S) R F := by
  intro f
  induction f with
  | zero => intro n sl S h1 h2; omega
  | succ f ih =>
    intro n sl S h1 h2 hp
    unfold whileM
    rw [hos_exT]
    refine Ho.imp (step n sl S hp) fun b S1 h => ?_
    cases b with
    | false => exact ⟨h⟩
    | true =>
      have h : HoS (body sl S1) (stp P n R) F := h
      obtain ⟨h⟩ := h
      show HoS (match body sl S1 with
        | .ok (.nx sl2) S2 => whileM cc body f sl2 S2
        | .ok (.ct sl2) S2 => whileM cc body f sl2 S2
        | .ok (.bk sl2) S2 => .ok (.nx sl2) S2
        | r => r) R F
      have nx : ∀ sl2 S2, P (n + 1) sl2 S2 → HoS (whileM cc body f sl2 S2) R F := fun sl2 S2 hp2 => by
        by_cases e : n + 1 = N
        · subst e; exact absurd hp2 (hN sl2 S2)
        · exact ih (n + 1) sl2 S2 (by omega) (by omega) hp2
      cases q : body sl S1 with
      | ok fl S2 =>
        rw [q] at h
        cases fl with
        | nx sl2 => exact nx sl2 S2 h
        | ct sl2 => exact nx sl2 S2 h
        | bk sl2 => exact ⟨h⟩
        | rt w => exact ⟨h⟩
        | xx x sl2 => exact ⟨h⟩
      | ex x S2 => rw [q] at h; exact h.elim
      | bad => rw [q] at h; exact h.elim
end RP

/-! RpAB: text * int; tuple > tuple of whole numbers. -/
namespace RP
open PySem L2 PySem.Spec PyProof.Rows
theorem mulOk_small {z : Str} {n : Int} (h : z.length ≤ 1000) (h0 : 0 ≤ n) (h1 : n ≤ 1000) : MulOk z n := by
  refine ⟨?_, fun a _ b => ?_, fun a _ => ?_⟩
  · rw [decide_eq_false (by omega), decide_eq_false (by omega)]; rfl
  · have : (z.length : Int) ≤ (2 ^ 63 - 1) / n := by
      rw [Int.le_ediv_iff_mul_le (by omega)]
      have h2 : (z.length : Int) * n ≤ 1000 * 1000 := Int.mul_le_mul (by omega) h1 h0 (by omega)
      omega
    omega
  · have h2 : z.length * n.toNat ≤ 1000 * 1000 := Nat.mul_le_mul h (by omega)
    have h3 := sizeLine_big
    unfold Builtin.Str.tooLong
    simp only [decide_eq_false_iff_not]
    omega
theorem opMulS {X : Cx} : OpR X (binaryOp .Mult) (fun x y H Q => ∃ z n, x = .str z ∧ y = .int n ∧ MulOk z n ∧ Q (.str (Txt.mul z n)) H) := by
  intro pins s σ H x y v u Q I rx ry h
  obtain ⟨z, n, rfl, rfl, ok, q⟩ := h
  obtain ⟨t1, rfl⟩ := rx
  obtain ⟨t2, rfl⟩ := ry
  exact SB.mul ok fun t' k => ⟨.str _, H, I.tok _, ⟨_, rfl⟩, q⟩
/-- the first that differs is greater -/
def lexGt (ns ms : List Int) : Bool := Ob.lexAt (fun j => decide (ns.getD j 0 = ms.getD j 0)) (fun j => decide (ms.getD j 0 < ns.getD j 0)) (decide (ns.length > ms.length)) 0 (min ns.length ms.length)
theorem opGtT {X : Cx} (room : X.A.units < cLine) : OpR X (compareOp .Gt) (fun x y H Q => ∃ (p1 p2 : Addr) (ns ms : List Int), x = .ref p1 ∧ y = .ref p2 ∧ SqT X.K H p1 (ns.map V.int) ∧ SqT X.K H p2 (ms.map V.int) ∧ Q (.bl (lexGt ns ms)) H) := by
  intro pins s σ H x y v u Q I rx ry h
  obtain ⟨p1, p2, ns, ms, rfl, rfl, h1, h2, q⟩ := h
  cases rx
  cases ry
  obtain ⟨us, v1, t1, _⟩ := I.tuple h1
  obtain ⟨us2, v2, t2, _⟩ := I.tuple h2
  have n1 : IntsAre us ns := Vals.ints v1
  have n2 : IntsAre us2 ms := Vals.ints v2
  have z1 : us.toArray.size = ns.length := (List.size_toArray ..).trans n1.length
  have z2 : us2.toArray.size = ms.length := (List.size_toArray ..).trans n2.length
  have w1 : ∀ j (hj : j < us.toArray.size), ∃ tk, us.toArray[j] = .int (ns.getD j 0) tk := fun j hj => IntsAre.int_at n1 _ _ (by simp at hj; simp [hj])
  have w2 : ∀ j (hj : j < us2.toArray.size), ∃ tk, us2.toArray[j] = .int (ms.getD j 0) tk := fun j hj => IntsAre.int_at n2 _ _ (by simp at hj; simp [hj])
  have cmp := Ob.RcOp.tuples_gt (A := X.A) (s := s) (e := fun j => decide (ns.getD j 0 = ms.getD j 0)) (r := fun j => decide (ms.getD j 0 < ns.getD j 0)) t1 t2 room
    (fun j a b => by
      obtain ⟨k1, e1⟩ := w1 j a
      obtain ⟨k2, e2⟩ := w2 j b
      rw [e1, e2, show decide (ns.getD j 0 = ms.getD j 0) = (ns.getD j 0 == ms.getD j 0) by
        by_cases e : ns.getD j 0 = ms.getD j 0
        · rw [decide_eq_true e, e]; simp
        · rw [decide_eq_false e]; exact (beq_eq_false_iff_ne.mpr e).symm]
      exact SeqAt.EqAt.int_int _ k1 _ k2)
    (fun j a b _ => by
      obtain ⟨k1, e1⟩ := w1 j a
      obtain ⟨k2, e2⟩ := w2 j b
      rw [e1, e2]
      exact Ob.RcOp.gt_int _ _ k1 k2)
  rw [z1, z2] at cmp
  exact cmp X.prog X.w X.xe (EP X pins σ Q) ⟨.bl (lexGt ns ms), H, I, rfl, q⟩
section
variable {m : Mo} {T : Tab} {k : Nat} {c t : Bool} {sc : Scope} {N ow : List Str}
def pyMulS (x y : W) : M W := fun S => match x, y with
  | .str z, .int n => if z.length ≤ 1000 ∧ 0 ≤ n ∧ n ≤ 1000 then .ok (.str (Txt.mul z n)) S else .bad
  | _, _ => .bad
theorem o_mulS : S2 m T k c t sc N ow .Mult pyMulS := by
  intro X g E pins s σ H x y v u Q I rx ry ⟨ad, S, w, z, R, rw, rz, h⟩
  obtain ⟨rfl, _⟩ := g
  unfold pyMulS at h
  split at h
  · split at h
    · rename_i hc
      cases rw; cases rz
      exact opMulS pins s σ H _ _ v u Q I rx ry ⟨_, _, rfl, rfl, mulOk_small hc.1 hc.2.1 hc.2.2, run_ok R (.str _) h⟩
    · exact h.elim
  · exact h.elim
def pyGtT (x y : W) : M W := fun S => match x, y with
  | .tup xs, .tup ys => match intsOf xs, intsOf ys with
    | some ns, some ms => .ok (.bl (lexGt ns ms)) S
    | _, _ => .bad
  | _, _ => .bad
theorem c_gtT : SC m T k c t sc N ow .Gt pyGtT := .of fun X g E pins s σ H x y v u Q I rx ry ⟨ad, S, w, z, R, rw', rz, h⟩ => by
  have hu : X.A.units < cLine := by have := g.un; omega
  obtain ⟨rfl, _⟩ := g
  unfold pyGtT at h
  split at h
  · split at h
    · rename_i h1 h2
      cases rw' with
      | tup s1 r1 =>
      cases rz with
      | tup s2 r2 =>
      rw [intsOf_rel h1 r1] at s1
      rw [intsOf_rel h2 r2] at s2
      exact opGtT hu pins s σ H _ _ v u Q I rx ry ⟨_, _, _, _, rfl, rfl, s1, s2, run_ok R (.bl _) h⟩
    · exact h.elim
  · exact h.elim
end
theorem lexAt_false {e r : Nat → Bool} : ∀ (n i : Nat), (∀ j, i ≤ j → e j = false → r j = false) → Ob.lexAt e r false i n = false
  | 0, _, _ => rfl
  | n + 1, i, h => by
    rw [Ob.lexAt_succ]
    by_cases he : e i = true
    · rw [if_pos he]
      exact lexAt_false n (i + 1) fun j hj => h j (by omega)
    · rw [if_neg he]
      exact h i (Nat.le_refl _) (by simpa using he)
theorem lexGt_no {ns ms : List Int} (hl : ns.length ≤ ms.length) (h : ∀ j : Nat, ns.getD j 0 ≤ ms.getD j 0) : lexGt ns ms = false := by
  unfold lexGt
  rw [decide_eq_false (by omega)]
  refine lexAt_false _ _ fun j _ he => ?_
  have := h j
  rw [decide_eq_false_iff_not] at he ⊢
  omega
theorem gtT_ii {S : Sto} (ns ms : List Int) : pyGtT (.tup (ns.map W.int)) (.tup (ms.map W.int)) S = .ok (.bl (lexGt ns ms)) S := by
  simp only [pyGtT, intsOf_map]
end RP

/-! RpAC: set(xs) of keys of any one kind; len(set(xs)) of texts. -/
namespace RP
open PySem L2 PySem.Spec PyProof.Rows
/-- the keys, each once, as they are met -/
def metK {K : Type} [BEq K] (ks : Nat → K) : Nat → List K
  | 0 => []
  | i + 1 => if (metK ks i).any (· == ks i) then metK ks i else metK ks i ++ [ks i]
theorem metK_le {K : Type} [BEq K] (ks : Nat → K) : ∀ i, (metK ks i).length ≤ i
  | 0 => Nat.le_refl _
  | i + 1 => by
    have := metK_le ks i
    unfold metK
    split
    · omega
    · rw [List.length_append]
      show _ + 1 ≤ _
      omega
section
variable {K : Type} [DecidableEq K] [BEq K] [LawfulBEq K] {pr : Program} {wo : World} {knd : KeyKind pr wo K}
theorem metK_any (ks : Nat → K) (i : Nat) (k : K) : (metK ks (i + 1)).any (· == k) = ((metK ks i).any (· == k) || decide (k = ks i)) := by
  have e : (metK ks (i + 1)) = if (metK ks i).any (· == ks i) then metK ks i else metK ks i ++ [ks i] := rfl
  rw [e]
  split
  · rename_i hm
    by_cases z : k = ks i
    · rw [z, hm]; simp
    · simp [z]
  · rw [List.any_append]
    congr 1
    show (ks i == k || false) = _
    rw [Bool.or_false]
    by_cases z : k = ks i
    · rw [z]; simp
    · have : ¬ ks i = k := fun t => z t.symm
      rw [beq_eq_false_iff_ne.mpr this, decide_eq_false z]
theorem metK_len (ks : Nat → K) (i : Nat) : (metK ks (i + 1)).length = if (metK ks i).any (· == ks i) then (metK ks i).length else (metK ks i).length + 1 := by
  show (if (metK ks i).any (· == ks i) then metK ks i else metK ks i ++ [ks i]).length = _
  split
  · rfl
  · rw [List.length_append]; rfl
theorem setLoop {A : Around} {R : Result → Shared → Prop} {it : Addr} {fp wr : List Addr} {G : Array GenState → Array GenState → Prop} {n : Nat} {P : Nat → Value → Prop} {St : Nat → Shared → Prop} (Wk : WalksS pr wo A.in1 it fp wr G n P St) {a : Addr} (nf : a ∉ fp)
    (ks : Nat → K) (isk : ∀ i v, P i v → knd.is (ks i) v = true ∧ v.scannable = true) (hb : n + 1 < scanBound) :
    ∀ (m i : Nat) (s : Shared), n = i + m → St i s → s.heap.SetOf knd a (fun k => (metK ks i).any (· == k)) (metK ks i).length →
      (∀ s2, Moved (a :: wr) G s s2 → s2.heap.SetOf knd a (fun k => (metK ks n).any (· == k)) (metK ks n).length → R (.ok (.ret .none)) s2) →
      codeAny (model pr wo) A (.builtin "set.update.loop" ⟨[.ref a, .ref it], []⟩) R s := by
  have nw : a ∉ wr := fun z => nf (Wk.sub _ z)
  have more : ∀ b ∈ wr, b ∈ a :: wr := fun b z => .tail _ z
  have keep : ∀ {s s2 : Shared} {T : K → Bool} {k : Nat}, Moved wr G s s2 → s.heap.SetOf knd a T k → s2.heap.SetOf knd a T k := fun mv hs => by
    obtain ⟨o, es, ep, tb, ho, rest⟩ := hs
    exact ⟨o, es, ep, tb, mv.heap a _ nw ho, rest⟩
  intro m
  induction m with
  | zero =>
    intro i s hi st hs fin
    have e : n = i := hi
    subst e
    apply codeAny_builtin F.entry_set_update_loop
    rw [Around.under_plainId F.plain_set_update_loop]
    show wpAny _ A.in1 (pyNext (.ref it) >>= _) _ _ s
    exact wpAny_bind (Wk.done s _ _ st fun s2 mv => by
      show wpAny _ A.in1 (PySem.ret Value.none) _ _ s2
      exact wpAny_pure (fin s2 (mv.mono more) (keep mv hs)))
  | succ m ih =>
    intro i s hi st hs fin
    apply codeAny_builtin F.entry_set_update_loop
    rw [Around.under_plainId F.plain_set_update_loop]
    show wpAny _ A.in1 (pyNext (.ref it) >>= _) _ _ s
    refine wpAny_bind (Wk.item i s _ _ (by omega) st fun v s2 hP st2 mv => ?_)
    obtain ⟨key, scn⟩ := isk i v hP
    show wpAny _ A.in1 (holding [v] (setAdd a v) >>= _) _ _ s2
    refine wpAny_bind (wpAny_holding ?_)
    unfold setAdd
    refine wpAny_holding (wpAny_bind (knd.pyHash key ?_))
    have room : (metK ks i).length + 1 < scanBound := by
      have := metK_le ks i
      omega
    have hs2 := keep mv hs
    refine wpAny_setAddHashed_of (s := { s2 with toks := s2.toks + 1 }) key scn hs2 room fun h3 but hs3 => ?_
    have hs4 : h3.SetOf knd a (fun k => (metK ks (i + 1)).any (· == k)) (metK ks (i + 1)).length := SetOf_congr hs3 (fun k => (metK_any ks i k).symm) (metK_len ks i).symm
    have same : ∀ b, b ≠ a → h3.get? b = s2.heap.get? b := fun b z => but.2 b z
    refine wpAny_pure ⟨plainId_quiet F.plain_set_update_loop _, ih (i + 1) _ (by omega) (Wk.frame _ s2 _ _ st2 (Nat.le_succ _) fun b z o e => ?_) hs4 fun s5 mv5 hs5 => fin s5 (Moved.trans Wk.gtrans ((mv.mono more).then_heap (Nat.le_succ _) fun b o z e => ?_) mv5) hs5⟩
    · rw [same b fun t => nf (t ▸ z)]; exact e
    · rw [same b fun t => z (t ▸ List.mem_cons_self)]; exact e
set_option maxHeartbeats 4000000 in
theorem setOfList {A : Around} {E : Value → Shared → Prop} {s : Shared} {l : Addr} {its : Array Value} {Q : Value → Shared → Prop} (hh : A.handled = none) (hl : s.heap.IsList l its) (ks : Nat → K) (isk : ∀ i v, its[i]? = some v → knd.is (ks i) v = true ∧ v.scannable = true) (hb : its.size + 1 < scanBound)
    (fin : ∀ (h2 : Heap) (tk : Nat), h2.SetOf knd s.heap.objs.size (fun k => (metK ks its.size).any (· == k)) (metK ks its.size).length →
      (∀ b o, b < s.heap.objs.size → s.heap.get? b = some o → h2.get? b = some o) → Q (.ref s.heap.objs.size) { s with heap := h2, toks := tk }) :
    wpAny (model pr wo) A (call (.type "set") [.ref l]) Q E s := by
  obtain ⟨c0, c1, mro⟩ := PySem.F.called_set.mro
  have x1 := PySem.F.called_set.made
  have x2 := PySem.F.called_set.sub
  apply wpAny_call
  apply codeAny_of_tree
  show wpAny _ _ (callAny (.type "set") _) _ _ _
  refine wpAny_pure ⟨Code.quiet_builtin _ (by decide +kernel), ?_⟩
  apply codeAny_builtin PySem.F.entry_type_call
  rw [Around.under_plain (weight_type_call_type "set" [.ref l] []) rfl]
  have x3 := PySem.F.called_set.notType
  have x4 := PySem.F.called_set.canCreate
  have x5 := PySem.F.typeCall_set_1 (.ref l)
  repeat (any_goals (first | assumption | wp_step))
  refine codeAny_mono (code_set_new_1 (.ref l) (E := E) (Q₁ := fun ob z => ∃ led : Bool, ob = .ref s.heap.objs.size ∧ z = { s with heap := s.heap.push { cls := .type "set", dict := none, data := .set #[] 0 (.fresh 0 0 led) } }) fun led => ⟨led, rfl, rfl⟩) fun r z hr => ?_
  cases r with
  | error e => exact hr
  | ok fl =>
    cases fl with
    | ret ob =>
      obtain ⟨led, rfl, rfl⟩ := hr
      generalize hne : ({ cls := .type "set", dict := none, data := .set #[] 0 (.fresh 0 0 led) } : Obj) = new
      have gS : (s.heap.push new).get? s.heap.objs.size = some new := Heap.get?_push_size _ (by rw [← hne]; rfl)
      have gT : Shared.TypeIs { s with heap := s.heap.push new } (.ref s.heap.objs.size) "set" := ⟨_, gS, by rw [← hne]⟩
      have y1 := PySem.F.called_set.init.lookup
      have y2 := PySem.F.called_set.init.bind (.ref s.heap.objs.size)
      repeat (any_goals (first | assumption | wp_step))
      refine codeAny_mono (codeAny_call_builtin (R := wants (fun r z => r = .none ∧ ∃ h2 tk, z = { s with heap := h2, toks := tk } ∧ h2.SetOf knd s.heap.objs.size (fun k => (metK ks its.size).any (· == k)) (metK ks its.size).length ∧
          (∀ b o, b < s.heap.objs.size → s.heap.get? b = some o → h2.get? b = some o)) E) PySem.F.called_set.init.plain PySem.F.entry_set_init (check_set_init_1 gT ?_)) fun r2 z2 hr2 => ?_
      · obtain ⟨⟨c, dd, dt, sl⟩, ho, hc, nn, hd⟩ := hl
        simp only at hc hd
        subst hc hd
        have ho1 : (s.heap.push new).get? l = some { cls := .type "list", dict := dd, data := .seq its nn, slots := sl } := Heap.get?_push_of_some _ ho
        have ll : l < s.heap.objs.size := Heap.lt_size ho
        have sz1 : (s.heap.push new).objs.size = s.heap.objs.size + 1 := Heap.size_push ..
        have ni : l ≠ (s.heap.push new).objs.size := by rw [sz1]; exact Nat.ne_of_lt (Nat.lt_succ_of_lt ll)
        have nf : s.heap.objs.size ∉ [(s.heap.push new).objs.size, l] := by
          simp only [List.mem_cons, List.not_mem_nil, or_false, not_or]
          exact ⟨by rw [sz1]; exact Nat.ne_of_lt (Nat.lt_succ_self _), Nat.ne_of_gt ll⟩
        have w1 := PySem.F.sub_list_set
        have w2 := PySem.F.sub_list_frozenset
        have w3 : (Value.type "list" == Value.type "dict") = false := by decide
        have hl1 : (s.heap.push new).IsList l its := ⟨_, ho1, rfl, nn, rfl⟩
        subst hne
        unfold Builtin.«set.__init__» noKeywords Builtin.Frozenset.updateFrom
        generalize hpi : pyIter = PI
        wp_walk
        subst hpi
        apply wpAny_pyIter_list hl1
        apply wpAny_bind
        apply wpAny_runValue
        have h3 : A.in1.in1.in1.handled = none := by simp [hh]
        refine setLoop (knd := knd) ((Walks.list h3 _ l ni its).toS) nf ks isk hb its.size 0 _ (by omega) ⟨⟨_, Heap.get?_push_size _ rfl, rfl, rfl⟩, hl1.push _⟩ ?_ ?_
        · have g0 := Heap.get?_push_of_some { cls := .type "list_iterator", data := .fields #[.ref l, .int 0 0] } gS
          exact SetOf_congr ((setObjOf_fresh (knd := knd) led).setOf g0 (by unfold scanBound; omega)) (fun _ => rfl) rfl
        · intro s9 mv hs9
          obtain ⟨h9, g9, d9, t9, o9⟩ := s9
          have eg : g9 = s.gens := mv.gens
          have ed : d9 = s.drawn := mv.drawn
          have eo : o9 = s.os := mv.os
          subst eg ed eo
          refine wpAny_pure ?_
          show wpAny _ _ (PySem.ret Value.none) _ _ _
          have sz2 := sz1
          refine wpAny_pure ⟨rfl, h9, t9, rfl, hs9, fun b o hb e => mv.heap b o ?_ (Heap.get?_push_of_some _ (Heap.get?_push_of_some _ e))⟩
          simp only [List.mem_cons, List.not_mem_nil, or_false, not_or]
          exact ⟨Nat.ne_of_lt hb, by rw [sz2]; exact Nat.ne_of_lt (Nat.lt_succ_of_lt hb)⟩
      · cases r2 with
        | error e => exact hr2
        | ok f2 =>
          cases f2 with
          | ret r =>
            obtain ⟨rfl, h2, tk, rfl, k1, k2⟩ := hr2
            repeat (any_goals (first | assumption | wp_step))
            exact fin _ _ k1 k2
          | _ => exact hr2.elim
    | _ => exact hr.elim
end
/-- texts, each once -/
def onceS (zs : List Str) : List Str := metK (fun i => zs.getD i Str.empty) zs.length
def iLenSetS (K : PySem.W.Frag) (ta : TE) : TE := fun σ H Q => ta σ H fun x H1 => ∃ (l : Addr) (zs : List Str), x = .ref l ∧ SqL K H1 l (zs.map V.str) ∧ zs.length ≤ 4000 ∧ Q (.int ((onceS zs).length : Nat)) H1
theorem valsStr : ∀ {zs : List Str} {us : List Value}, Vals (zs.map V.str) us → ∀ (i : Nat) (v : Value), us[i]? = some v → ∃ t, v = .str (zs.getD i Str.empty) t
  | [], _, .nil, i, v, h => by simp at h
  | z :: zs, _, .cons r rr, 0, v, h => by
    simp at h
    subst h
    obtain ⟨t, rfl⟩ := r
    exact ⟨t, rfl⟩
  | z :: zs, _, .cons r rr, i + 1, v, h => by
    simp only [List.getElem?_cons_succ] at h
    obtain ⟨t, e⟩ := valsStr rr i v h
    exact ⟨t, by rw [e]; rfl⟩
theorem pe_lenSetS {X : Cx} {a : Expr} {ta : TE} {p p2 q pos : Pos} (hg : Gl X "len") (hm : X.mg "len" = none) (hg2 : Gl X "set") (hm2 : X.mg "set" = none) (ha : PE X a ta) (hc : X.calm = true)
    (na : starEach [a] X.env = (false, eval a X.env) :: starEach [] X.env) : PE X (.Call (.Name "len" p) [.Call (.Name "set" p2) [a] [] q] [] pos) (iLenSetS X.K ta) := by
  refine ⟨fun pins s σ H Q I h => ?_⟩
  refine Call_ (ld_blt I hg hm boot_len ?_)
  refine PyProof.Rows.callWith_builtin1 (PyProof.Rows.args_cons ?_ rfl) rfl rfl
  refine Call_ (ld_blt I hg2 hm2 boot_set ?_)
  refine PyProof.Rows.callWith_type1 (PyProof.Rows.args_cons (thn (ha.run pins s σ H _ I h) fun v st ⟨x, H1, I1, rx, qx⟩ => PyProof.Rows.args_nil ?_) na) na rfl
  obtain ⟨l, zs, rfl, hq, hl, qx⟩ := qx
  cases rx
  obtain ⟨its, rv, pl, hz⟩ := I1.list hq
  have hlen : its.toArray.size = zs.length := by rw [List.size_toArray, ← rv.length, List.length_map]
  refine setOfList (knd := strKind X.prog X.w) (I1.ok.hd hc) pl.isList (fun i => zs.getD i Str.empty) (fun i v hv => ?_) (by rw [hlen]; unfold scanBound; omega) fun h1 tk hS hk => ?_
  · obtain ⟨t, rfl⟩ := valsStr rv i v (by simpa using hv)
    exact ⟨strKind_is _ _ _ _, rfl⟩
  · refine PyProof.Rows.args_nil ?_
    rw [hlen] at hS
    obtain ⟨o, es, ep, t, ho, hex, hd, _, _, _, hf, hn⟩ := hS
    have I2 : Inv X pins σ H1 { st with heap := h1, toks := tk } := I1.kept fun b o e => hk b o (Heap.lt_size e) e
    exact call_len_set ho hex hd hf (by rw [hn]; have := metK_le (fun i => zs.getD i Str.empty) zs.length; omega) ⟨.int (onceS zs).length, H1, I2.tok _, ⟨_, by rw [hn]; rfl⟩, qx⟩
section
variable {m : Mo} {T : Tab} {k : Nat} {c t : Bool} {sc : Scope} {N ow : List Str} {a : Expr} {fa : Slots → M W}
def strsOf : List W → Option (List Str)
  | [] => some []
  | .str z :: r => (strsOf r).map (z :: ·)
  | _ => none
theorem strsOf_map : ∀ zs : List Str, strsOf (zs.map W.str) = some zs
  | [] => rfl
  | z :: zs => by simp only [List.map_cons, strsOf, strsOf_map zs]; rfl
theorem strsOf_rel {K : PySem.W.Frag} {ad : List Addr} {H : Hp} : ∀ {ws : List W} {vs : List V} {zs : List Str}, strsOf ws = some zs → RelWs K ad H ws vs → vs = zs.map V.str
  | [], _, _, e, .nil => by cases e; rfl
  | w :: ws, _, zs, e, .cons r rr => by
    cases w <;> simp only [strsOf] at e <;> try cases e
    cases r
    cases q : strsOf ws with
    | none => rw [q] at e; cases e
    | some cs =>
      rw [q] at e
      cases e
      rw [strsOf_rel q rr]
      rfl
def lenSetSM (w : W) : M W := fun S => match w with
  | .ref i => match seqOf S i with
    | some xs => match strsOf xs with
      | some zs => if zs.length ≤ 4000 then .ok (.int (onceS zs).length) S else .bad
      | none => .bad
    | none => .bad
  | _ => .bad
theorem e_lensetS {p p2 q pos : Pos} (hc : c = true) (hl : m.mg "len" = none) (hs : m.mg "set" = none) (ha : SE m T k c t sc N ow a fa) (gl : sc.names.lookup ("len" : Str) = some .globalImplicit := by rfl) (gs : sc.names.lookup ("set" : Str) = some .globalImplicit := by rfl)
    (na : ∀ env, starEach [a] env = (false, eval a env) :: starEach [] env := by intro _; rfl) : SE m T k c t sc N ow (.Call (.Name "len" p) [.Call (.Name "set" p2) [a] [] q] [] pos) (fun sl => bd (fa sl) lenSetSM) := fun X g Wx tk => by
  have em : X.mg = m.mg := by rw [← g.mo]; rfl
  have ek : X.K = m.K := by rw [← g.mo]; rfl
  refine (pe_lenSetS (p := p) (p2 := p2) (q := q) (pos := pos) (gl_of g gl) (by rw [em]; exact hl) (gl_of g gs) (by rw [em]; exact hs) (ha X g Wx tk) (g.calm hc) (na _)).imp fun σ H Q h => ?_
  obtain ⟨ad, S, sl, R, L, h⟩ := h
  refine ⟨ad, S, sl, R, L, run_imp (run_bd h) ?_⟩
  rintro v H1 ⟨ad1, S1, w1, l1, R1, r1, h1⟩
  unfold lenSetSM at h1
  split at h1
  · split at h1
    · rename_i xs hx
      split at h1
      · rename_i zs hn
        split at h1
        · rename_i hz
          cases r1 with
          | ref e1 =>
          obtain ⟨vs, hq, r2⟩ := R1.seq e1 hx
          rw [strsOf_rel hn r2] at hq
          rw [ek]
          exact ⟨_, zs, rfl, hq, hz, run_ok R1 (.int _) h1⟩
        · exact h1.elim
      · exact h1.elim
    · exact h1.elim
  · exact h1.elim
end
theorem metK_mem {K : Type} [DecidableEq K] [BEq K] [LawfulBEq K] (ks : Nat → K) : ∀ i k, k ∈ metK ks i → ∃ j, j < i ∧ ks j = k
  | 0, k, h => by cases h
  | i + 1, k, h => by
    unfold metK at h
    split at h
    · obtain ⟨j, hj, e⟩ := metK_mem ks i k h
      exact ⟨j, by omega, e⟩
    · rcases List.mem_append.mp h with h | h
      · obtain ⟨j, hj, e⟩ := metK_mem ks i k h
        exact ⟨j, by omega, e⟩
      · exact ⟨i, by omega, (List.mem_singleton.mp h).symm⟩
/-- all differ: none is left out -/
theorem metK_all {K : Type} [DecidableEq K] [BEq K] [LawfulBEq K] (ks : Nat → K) : ∀ i, (∀ a b, a < b → b < i → ks a ≠ ks b) → (metK ks i).length = i
  | 0, _ => rfl
  | i + 1, h => by
    have ih := metK_all ks i fun a b h1 h2 => h a b h1 (by omega)
    rw [metK_len, if_neg, ih]
    intro z
    obtain ⟨k, hk, e⟩ := List.any_eq_true.mp z
    obtain ⟨j, hj, e2⟩ := metK_mem ks i k hk
    have e : k = ks i := by simpa using e
    exact h j i hj (by omega) (by rw [e2, e])
end RP

/-! RpAD: list.extend, list.pop(i). -/
namespace RP
open PySem L2
section
variable {m : Mo} {T : Tab} {k : Nat} {c t : Bool} {sc : Scope} {N ow : List Str}
def extendM (w : W) (ws : List W) : M W := fun S => match w, ws with
  | .ref i, [.ref j] => match S[i]?, S[j]? with
    | some (.lst xs), some (.lst ys) => if xs.length + ys.length ≤ sizeLine then .ok .non (S.set i (.lst (xs ++ ys))) else .bad
    | _, _ => .bad
  | _, _ => .bad
theorem m_extend : SM m T k c t sc N ow "list.extend" extendM := fun X g E pins s σ H x xs v us Q I rx rs ⟨ad, S, w, ws, R, rw', rws, h⟩ => by
  obtain ⟨rfl, _⟩ := g
  unfold extendM at h
  split at h
  · cases rw' with
    | ref e1 =>
    match xs, rws with
    | [_], .cons (.ref e2) .nil =>
      split at h
      · rename_i ys zs h1 h2
        split at h
        · rename_i hz
          obtain ⟨vs, q, r1⟩ := R.lst e1 h1
          obtain ⟨us', q2, r2⟩ := R.lst e2 h2
          exact mt_extend pins s σ H _ _ v us Q I rx rs ⟨_, _, vs, us', rfl, rfl, q, q2, by rw [← r1.length, ← r2.length]; exact hz, run_wlst R e1 q (r1.append r2) .non h⟩
        · exact h.elim
      · exact h.elim
  · exact h.elim
theorem RelWs.erase {K : PySem.W.Frag} {ad : List Addr} {H : Hp} : ∀ {ws : List W} {vs : List V} (n : Nat), RelWs K ad H ws vs → RelWs K ad H (ws.eraseIdx n) (vs.eraseIdx n)
  | _, _, _, .nil => .nil
  | _, _, 0, .cons _ rr => rr
  | _, _, n + 1, .cons r rr => .cons r (RelWs.erase n rr)
def popAtM (w : W) (ws : List W) : M W := fun S => match w, ws with
  | .ref i, [.int n] => match S[i]? with
    | some (.lst xs) => match seqIndex? n xs.length with
      | some j => match xs[j]? with
        | some y => if -(2 ^ 63) ≤ n ∧ n < 2 ^ 63 then .ok y (S.set i (.lst (xs.eraseIdx j))) else .bad
        | none => .bad
      | none => .bad
    | _ => .bad
  | _, _ => .bad
theorem m_popAt : SM m T k c t sc N ow "list.pop" popAtM := fun X g E pins s σ H x xs v us Q I rx rs ⟨ad, S, w, ws, R, rw', rws, h⟩ => by
  obtain ⟨rfl, _⟩ := g
  unfold popAtM at h
  split at h
  · cases rw' with
    | ref e1 =>
    match xs, rws with
    | [_], .cons (.int _) .nil =>
      split at h
      · rename_i ys h1
        split at h
        · rename_i j hj
          split at h
          · rename_i y hy
            split at h
            · rename_i hb
              obtain ⟨vs, q, r1⟩ := R.lst e1 h1
              obtain ⟨u, hu, ru⟩ := r1.get hy
              exact mt_popAt pins s σ H _ _ v us Q I rx rs ⟨_, vs, _, j, u, rfl, rfl, q, hb.1, hb.2, by rw [← r1.length]; exact hj, hu, run_wlst R e1 q (RelWs.erase j r1) ru h⟩
            · exact h.elim
          · exact h.elim
        · exact h.elim
      · exact h.elim
  · exact h.elim
theorem ext_ll {S : Sto} {i j : Nat} {xs ys : List W} (h1 : S[i]? = some (.lst xs)) (h2 : S[j]? = some (.lst ys)) (hz : xs.length + ys.length ≤ sizeLine) : extendM (.ref i) [.ref j] S = .ok .non (S.set i (.lst (xs ++ ys))) := by simp only [extendM, h1, h2, hz, if_true]
end
end RP

/-! RpAE: xs[i] op= v; min of a list of data. -/
namespace RP
open PySem L2 PySem.Spec PyProof.Rows
open PySem.W (alike dataLt AlikeAll iter_listW moved_old cmpIn_lt)
theorem get_list {X : Cx} : PGet X (fun o i H Q => ∃ (p : Addr) (xs : List V) (n : Int) (v : V), o = .ref p ∧ i = .int n ∧ 0 ≤ n ∧ SqL X.K H p xs ∧ xs[n.toNat]? = some v ∧ Q v H) := by
  intro pins s σ H o i ov iv Q I ro ri h
  obtain ⟨p, xs, n, v, rfl, rfl, h0, hq, hv, q⟩ := h
  cases ro
  obtain ⟨t, rfl⟩ := ri
  obtain ⟨its, r, pl, hz⟩ := I.list hq
  obtain ⟨w, ew, rw'⟩ := r.get hv
  have hl := (List.getElem?_eq_some_iff.mp hv).1
  have hn := line63
  exact wpAny_getItem_list pl.isList h0 (by omega) (by simpa using ew) ⟨v, H, I, rw', q⟩
section
variable {m : Mo} {T : Tab} {k : Nat} {c t : Bool} {sc : Scope} {N ow : List Str} {o b e : Expr} {fo fb fe : Slots → M W} {tpos pos : Pos}
/-- what stands at a place of a list, told from its start -/
def ixL (w y : W) : M W := fun S => match w, y with
  | .ref r, .int i => match S[r]? with
    | some (.lst xs) => if 0 ≤ i then (match xs[i.toNat]? with
      | some v => .ok v S
      | none => .bad) else .bad
    | _ => .bad
  | _, _ => .bad
theorem s_augIx {op : Operator} {gg : W → W → M W} (ho : SE m T k c t sc N ow o fo) (hi : SE m T k c t sc N ow b fb) (he : SE m T k c t sc N ow e fe) (hop : SI m T k c t sc N ow op gg)
    (ha : ∀ ov iv new, augStore b ov iv new = (do holding [new, ov, iv] (setItem ov iv new); release [new, ov, iv] []; pure .next) := by intros; rfl) :
    SS m T k c t sc N ow (.AugAssign (.Subscript o b tpos) op e pos) (fun s => exS s (fo s) fun w => exS s (fb s) fun i => exS s (ixL w i) fun x => exS s (fe s) fun y => exS s (gg x y) fun z => asgM (bd (setIxM w i z) fun _ => ret s)) := fun X g Wx tk => by
  have ho := ho X g Wx tk
  have hi := hi X g Wx tk
  have he := he X g Wx tk
  have hop := fun E => hop X g E
  obtain ⟨rfl, _⟩ := g
  refine ⟨fun pins s σ H D I h => (ps_augS (tip := r2 T X.K gg fun c d H' => Wx c d σ H') ho hi get_list he (hop fun c d H' => Wx c d σ H') set_list ha).run pins s σ H D I ?_⟩
  obtain ⟨ad, S, sl, R, L, h⟩ := h
  refine ⟨ad, S, sl, R, L, run_imp (run_exS L h) ?_⟩
  rintro ov H1 ⟨ad1, S1, w1, l1, R1, r1, h1⟩
  have L1 := L.mono l1
  refine ⟨ad1, S1, sl, R1, L1, run_imp (run_exS L1 h1) ?_⟩
  rintro iv H2 ⟨ad2, S2, w2, l2, R2, r2, h2⟩
  have L2 := L1.mono l2
  have r1 := r1.mono l2
  unfold exS ixL at h2
  cases w1 with
  | ref i =>
    cases w2 with
    | int n =>
      cases r2
      cases r1 with
      | ref e1 =>
      cases hs : S2[i]? with
      | none => simp only [hs] at h2; exact h2.elim
      | some ob =>
        cases ob with
        | lst xs =>
          simp only [hs] at h2
          by_cases h0 : 0 ≤ n
          · simp only [h0, if_true] at h2
            cases hv : xs[n.toNat]? with
            | none => simp only [hv] at h2; exact h2.elim
            | some x =>
              simp only [hv] at h2
              obtain ⟨vs, q, rr⟩ := R2.lst e1 hs
              obtain ⟨v', hv', rv⟩ := rr.get hv
              refine ⟨_, vs, n, v', rfl, rfl, h0, SqL.of q, hv', ad2, S2, sl, R2, L2, run_imp (run_exS L2 h2) ?_⟩
              rintro yv H3 ⟨ad3, S3, w3, l3, R3, r3, h3⟩
              have L3 := L2.mono l3
              refine ⟨ad3, S3, x, w3, R3, rv.mono l3, r3, run_imp (run_exS L3 h3) ?_⟩
              rintro zv H4 ⟨ad4, S4, w4, l4, R4, r4, h4⟩
              have L4 := L3.mono l4
              have h4 := runS_asg h4
              have e4 := pre_get l4.pre (pre_get l3.pre e1)
              unfold bd setIxM at h4
              cases hs4 : S4[i]? with
              | none => simp only [hs4] at h4; exact h4.elim
              | some ob4 =>
                cases ob4 with
                | lst xs4 =>
                  simp only [hs4] at h4
                  cases hj : ixN xs4.length n with
                  | none => simp only [hj] at h4; exact h4.elim
                  | some j =>
                    simp only [hj] at h4
                    obtain ⟨vs4, q4, rr4⟩ := R4.lst e4 hs4
                    refine ⟨_, vs4, n, j, rfl, rfl, q4, by rw [← rr4.length]; exact hj, ?_⟩
                    have b5 := But.upd (u := .lst (vs4.set j zv)) q4 trivial
                    have hf : ∀ o u, H4 _ ≠ some (.frz o (.tup u)) := fun o u z => by rw [q4] at z; cases z
                    have l5 := b5.le (K := X.K) hf (List.mem_of_getElem? e4) (R4.keen e4)
                    exact h4 _ _ _ l5 (R4.write e4 b5 hf ⟨_, upd_same, (rr4.set r4 j).mono l5⟩) (L4.mono l5)
                | _ => simp only [hs4] at h4; exact h4.elim
          · simp only [h0, if_false] at h2; exact h2.elim
        | _ => simp only [hs] at h2; exact h2.elim
    | _ => exact h2.elim
  | _ => cases w2 <;> exact h2.elim
end
/-! ### min of a list of data -/
theorem min_at {prog : Program} {w : World} {A : Around} {E : Value → Shared → Prop} {s : Shared} {l : Addr} {vs : Array Value} {ds : List PyData} {as : List Addr} {Q : Value → Shared → Prop} (hh : A.handled = none) (hl : s.heap.IsList l vs) (hr : ReadsAll s.heap vs.toList ds as) (ha : AlikeAll ds) (hn : 0 < ds.length) (hu : A.units + 1 + PyData.depthAll ds < cLine)
    (h : ∀ v h' tk, vs[argBest (fun i j => dataLt (ds.getD i .none) (ds.getD j .none)) (ds.length - 1)]? = some v → (∀ b o, s.heap.get? b = some o → h'.get? b = some o) → Q v { s with heap := h', toks := tk }) :
    wpAny (model prog w) A (call (.builtin "min") [.ref l]) Q E s := by
  have hn' : vs.size = ds.length := PySem.W.readsAll_len hr
  refine call_min_walkH (iter_listW (A := A.in1) hh hl fun s₂ e W st hfp hw hk => ?_)
  refine ⟨_, _, _, _, _, _, _, s.heap, _, rfl, W, st, hfp, by omega, hw, hk, cmpIn_lt (A := A.in1) hr ha (by show A.units + 1 + _ < _; exact hu), fun v s' hP m => ?_⟩
  obtain ⟨h', tk, rfl, hk'⟩ := moved_old e rfl m
  rw [hn'] at hP
  exact h v h' tk hP hk'
def alikeB (ds : List PyData) : Bool := ds.all fun x => (match x with | .none => false | _ => true) && ds.all fun y => alike x y
theorem alikeB_all {ds : List PyData} (h : alikeB ds = true) : AlikeAll ds := by
  unfold alikeB at h
  rw [List.all_eq_true] at h
  refine ⟨fun x hx y hy => ?_, fun x hx => ?_⟩
  · have := h x hx
    rw [Bool.and_eq_true, List.all_eq_true] at this
    exact this.2 y hy
  · have := h x hx
    rw [Bool.and_eq_true] at this
    rintro rfl
    exact absurd this.1 (by simp)
def minIx (ds : List PyData) : Nat := argBest (fun i j => dataLt (ds.getD i .none) (ds.getD j .none)) (ds.length - 1)
section
variable {m : Mo} {T : Tab} {k : Nat} {c t : Bool} {sc : Scope} {N ow : List Str}
def minM (ws : List W) : M W := fun S => match ws with
  | [.ref i] => match S[i]? with
    | some (.lst xs) => match xs.mapM (dat 9 S) with
      | some ds => if alikeB ds && (!ds.isEmpty) && decide (PyData.depthAll ds ≤ 60) then (match xs[minIx ds]? with
        | some w => .ok w S
        | none => .bad) else .bad
      | none => .bad
    | _ => .bad
  | _ => .bad
theorem n_min (hc : c = true) : SN m T k c t sc N ow (.builtin "min") minM := fun X g E pins s σ H xs us Q I r ⟨ad, S, ws, R, rw', h⟩ => by
  have calm := g.calm hc
  have hu : X.A.units + 65 < cLine := by have := (g.room hc).un; omega
  obtain ⟨rfl, _⟩ := g
  unfold minM at h
  split at h
  · match xs, rw' with
    | [_], .cons (.ref e1) .nil =>
      split at h
      · rename_i ys hs
        split at h
        · rename_i ds hd
          split at h
          · rename_i hz
            simp only [Bool.and_eq_true, decide_eq_true_eq] at hz
            split at h
            · rename_i w hw
              obtain ⟨vs, q, r2⟩ := R.lst e1 hs
              obtain ⟨its, rv, pl, _⟩ := I.list (SqL.of q)
              obtain ⟨as, rd⟩ := Dp.readsAll I ds vs its (dat_all (dat_dp R 9) hd r2) rv
              rw [Vals.ref1 r]
              refine min_at (I.ok.hd calm) pl.isList (by simpa using rd) (alikeB_all hz.1.1) (List.length_pos_iff.mpr (by simpa using hz.1.2)) (by omega) fun v h' tk hv hk => ?_
              obtain ⟨v1, e1, r1⟩ := r2.get hw
              obtain ⟨u1, e2, r3⟩ := rv.get e1
              have : v = u1 := by
                have e3 : its[minIx ds]? = some v := by simpa [minIx] using hv
                rw [e2] at e3
                exact (Option.some.inj e3).symm
              subst this
              exact ⟨v1, H, I.kept hk, r3, run_ok R r1 h⟩
            · exact h.elim
          · exact h.elim
        · exact h.elim
      · exact h.elim
  · exact h.elim
end
end RP

/-! RpAF: tuple == tuple, tuple != tuple, items with an own == among them; where they are equal. -/
namespace GQ
open PySem PySem.SeqAt
open AutoSeq1 (wpAny_loadPart')
open MeetsSeq MeetsSeq2 MeetsSeq3 SeqRoads2
section
variable {prog : Program} {w : World} {A : Around} {R : Result → Shared → Prop}
theorem tuple_neG (l b : Addr) (items items2 : Array Value) (n n2 : Nat) (dd dd2 : Option Addr) (sl sl2 : Array (Option Value)) (hsz : items.size = items2.size) (I : Nat → Shared → Prop)
    (turn : ∀ i (h1 : i < items.size) (h2 : i < items2.size) s, I i s → wpAny (model prog w) A.in1 (eqBool items[i] items2[i]) (fun r s' => r = true ∧ I (i + 1) s') (fun e s' => R (.error e) s') s)
    (fin : ∀ s, I items.size s → R (.ok (.ret (.bool false))) s) {s : Shared} (hl1 : s.heap.get? l = some { cls := .type "tuple", dict := dd, data := .seq items n, slots := sl }) (hb1 : s.heap.get? b = some { cls := .type "tuple", dict := dd2, data := .seq items2 n2, slots := sl2 }) (h : I 0 s) :
    wpAny (model prog w) A.in1 (Builtin.«tuple.__ne__» ⟨[.ref l, .ref b], []⟩) (FinOf prog w A R) (fun e s' => R (.error e) s') s := by
  have f2 := AutoSeq1.sub_tuple_tuple
  have hZ : (items.toList.zip items2.toList).length = items.size := by simp [hsz]
  have h0 := h
  obtain ⟨hp, g, d, tk, os⟩ := s
  wp_walk using wpAny_loadPart' hl1, wpAny_loadPart' hb1, wpAny_forIn_list _ (fun rest b s' => b.1 = none ∧ ∃ i, rest = (items.toList.zip items2.toList).drop i ∧ i ≤ items.size ∧ I i s') _
  case turn =>
    rintro ⟨y, x⟩ rest b s' ⟨hb', i, hz, hi, hI⟩
    have hlt : i < (items.toList.zip items2.toList).length := by
      rcases Nat.lt_or_ge i (items.toList.zip items2.toList).length with h' | h'
      · exact h'
      · rw [List.drop_of_length_le h'] at hz; cases hz
    have h1 : i < items.size := hZ ▸ hlt
    have h2 : i < items2.size := hsz ▸ h1
    rw [List.drop_eq_getElem_cons hlt] at hz
    injection hz with hyx hrest
    have hy : y = items[i] := by have := congrArg Prod.fst hyx; simpa using this
    have hx : x = items2[i] := by have := congrArg Prod.snd hyx; simpa using this
    subst hy hx
    refine wpAny_bind (wpAny_mono (turn i h1 h2 s' hI) (fun r s2 q2 => ?_) fun _ _ x => x)
    obtain ⟨hr, q2⟩ := q2
    subst hr
    wp_walk
    exact ⟨rfl, i + 1, hrest, h1, q2⟩
  case fin =>
    rintro ⟨b1, b2⟩ s' ⟨hb', i, hz, hi, hI⟩
    simp only at hb'
    subst hb'
    have hge : items.size ≤ i := by
      rcases Nat.lt_or_ge i (items.toList.zip items2.toList).length with h' | h'
      · rw [List.drop_eq_getElem_cons h'] at hz; cases hz
      · exact hZ ▸ h'
    have hi' : i = items.size := by omega
    have hR : R (.ok (.ret (.bool false))) s' := fin s' (hi' ▸ hI)
    wp_walk
    simpa [Builtin.Tuple.tupleCompareSizes, hsz] using hR
  case h =>
    exact ⟨rfl, 0, rfl, Nat.zero_le _, h0⟩
end
section
variable {prog : Program} {w : World} {A : Around} {E : Value → Shared → Prop} {s : Shared}
theorem rc_tupNe {l b : Addr} {items items2 : Array Value} {Q : Value → Shared → Prop} (hsz : items.size = items2.size) (hu : A.units < cLine) (I : Nat → Shared → Prop)
    (hl : s.heap.IsTuple l items) (hb : s.heap.IsTuple b items2)
    (turn : ∀ i (h1 : i < items.size) (h2 : i < items2.size) s, I i s → wpAny (model prog w) A.in1 (eqBool items[i] items2[i]) (fun r s' => r = true ∧ I (i + 1) s') E s)
    (fin : ∀ s, I items.size s → Q (.bool false) s) (h : I 0 s) : wpAny (model prog w) A (richCompare .NotEq (.ref l) (.ref b)) Q E s := by
  obtain ⟨⟨cls, dd, data, sl⟩, ho, hc, n, hd⟩ := id hl
  obtain ⟨⟨cls2, dd2, data2, sl2⟩, ho2, hc2, n2, hd2⟩ := id hb
  simp only at hc hd hc2 hd2
  subst hc hd hc2 hd2
  refine wpAny_richCompare_same_room (op := .NotEq) ⟨_, ho, rfl⟩ ⟨_, ho2, rfl⟩ F.slot_tuple_ne (call_here F.slot_tuple_ne ⟨_, ho, rfl⟩ F.entry_tuple_ne (F.args_tuple_ne_2 _ _) ?_) hu
  exact tuple_neG (R := wants (fun v s' => v ≠ .notImplemented ∧ Q v s') E) l b items items2 n n2 dd dd2 sl sl2 hsz I turn (fun s' q => ⟨(fun x => nomatch x), fin s' q⟩) ho ho2 h
end
end GQ
namespace RP
open PySem L2 PySem.Spec PyProof.Rows
theorem nodup_at {α : Type} {l : List α} (h : l.Nodup) {i j : Nat} {a : α} (h1 : l[i]? = some a) (h2 : l[j]? = some a) : i = j := by
  obtain ⟨k1, e1⟩ := List.getElem?_eq_some_iff.mp h1
  obtain ⟨k2, e2⟩ := List.getElem?_eq_some_iff.mp h2
  exact (List.getElem_inj h).mp (e1.trans e2.symm)
/-- two items are seen to be equal: by data, as the same thing, or by the class's own == -/
def eqOne (cc : Nat) (g : List W → M W) (x y : W) (S : Sto) : Option Sto := match dat 9 S x, dat 9 S y with
  | some d, some e => if SeqAt.shaped d && SeqAt.shaped e && PyData.eqv d e then some S else none
  | _, _ => match x, y with
    | .ref i, .ref j => if i = j then some S else if clsOf S x = some (true, cc) ∧ clsOf S y = some (true, cc) then (match g [x, y] S with
      | .ok (.bl true) S' => some S'
      | _ => none) else none
    | _, _ => none
def eqsM (cc : Nat) (g : List W → M W) : List W → List W → Sto → Option Sto
  | [], [], S => some S
  | x :: xs, y :: ys, S => match eqOne cc g x y S with
    | some S' => eqsM cc g xs ys S'
    | none => none
  | _, _, _ => none
theorem eqsM_len {cc : Nat} {g : List W → M W} : ∀ {xs ys : List W} {S S' : Sto}, eqsM cc g xs ys S = some S' → xs.length = ys.length
  | [], [], _, _, _ => rfl
  | x :: xs, y :: ys, S, S', h => by
    rw [eqsM] at h
    split at h
    · have := eqsM_len h
      simp only [List.length_cons]
      omega
    · cases h
  | [], _ :: _, _, _, h => by simp [eqsM] at h
  | _ :: _, [], _, _, h => by simp [eqsM] at h
def eqTupM (b : Bool) (cc : Nat) (g : List W → M W) (x y : W) : M W := fun S => match x, y with
  | .tup xs, .tup ys => match eqsM cc g xs ys S with
    | some S' => .ok (.bl b) S'
    | none => .bad
  | _, _ => .bad
section
variable {m : Mo} {T : Tab} {k : Nat} {c t : Bool} {sc : Scope} {N ow : List Str} {cc n : Nat} {ga : Addr} {g1 : List W → M W}
theorem one_turn {X : Cx} {j : Nat} (g : Good m k c t sc N ow X) (hc : c = true) (Q : EqS m T cc ga) (F : FnM m T j ga n g1) (hj : j + 1 ≤ k) {pins : List (Addr × Obj)} {σ : L2.St} {H : Hp} {s : Shared} {ad : List Addr} {S S' : Sto} {x y : W} {vx vy : V} {u v : Value}
    (I : Inv X pins σ H s) (R : Rel T m.K ad H S) (rx : RelW m.K ad H x vx) (ry : RelW m.K ad H y vy) (ru : RelV vx u) (rv : RelV vy v) (h : eqOne cc g1 x y S = some S') :
    wpAny (model X.prog X.w) X.A.in1 (eqBool u v) (fun r s' => r = true ∧ ∃ ad' H', Inv X pins σ H' s' ∧ Le m.K ad H ad' H' ∧ Rel T m.K ad' H' S') X.xe s := by
  have room := (g.room hc).mono hj
  have un := (g.room hc).un
  obtain ⟨rfl, _⟩ := g
  unfold eqOne at h
  split at h
  · rename_i d e h1 h2
    split at h
    · rename_i hs
      cases h
      simp only [Bool.and_eq_true] at hs
      obtain ⟨as, r1⟩ := Dp.reads I d vx u (dat_dp R _ _ _ _ h1 rx) ru
      obtain ⟨bs, r2⟩ := Dp.reads I e vy v (dat_dp R _ _ _ _ h2 ry) rv
      have sd := hs.1.1
      simp only [SeqAt.shaped, Bool.and_eq_true, decide_eq_true_eq] at sd
      refine SeqAt.eqAt_reads d e X.A.in1 s u v as bs r1 r2 (SeqAt.canLay_of_shaped hs.1.1) (SeqAt.canLay_of_shaped hs.1.2) ?_ X.prog X.w X.xe _ ⟨hs.2, ad, H, I, Le.refl, R⟩
      have : X.A.in1.units = X.A.units + 1 := rfl
      have := Nat.min_le_left d.depth e.depth
      omega
    · cases h
  · split at h
    · rename_i i i' 
      obtain ⟨a, rfl, e1⟩ : ∃ a, vx = .ref a ∧ ad[_]? = some a := by cases rx with | ref e1 => exact ⟨_, rfl, e1⟩
      obtain ⟨b, rfl, e2⟩ : ∃ b, vy = .ref b ∧ ad[_]? = some b := by cases ry with | ref e2 => exact ⟨_, rfl, e2⟩
      cases ru
      cases rv
      split at h
      · rename_i hij
        cases h
        subst hij
        rw [e1] at e2
        cases e2
        exact SeqAt.EqAt.same (A := X.A.in1) (s := s) (.ref _) X.prog X.w X.xe _ ⟨rfl, ad, H, I, Le.refl, R⟩
      · rename_i hij
        split at h
        · rename_i hcl
          split at h
          · rename_i S2 hg
            cases h
            have hab : a ≠ b := fun z => by
              subst z
              exact hij (nodup_at R.nd e1 e2)
            obtain ⟨a', dx, vs, ea, q1⟩ := clsOf_slo R (.ref e1) hcl.1
            cases ea
            obtain ⟨b', dy, us, eb, q2⟩ := clsOf_slo R (.ref e2) hcl.2
            cases eb
            obtain ⟨sl, od, _, J, _⟩ := SlX.slt_inst I q1
            obtain ⟨sl', od', _, J', _⟩ := SlX.slt_inst I q2
            obtain ⟨mF, hF⟩ := I.fr
            refine GQ.eqBool_refG hab ?_
            refine PySem.W.cmp_K (op := .Eq) (tb := .ref (T.cls cc)) room.in1.units0 hF I.ok.mod.kin J J'.type Q.nf Q.eq Q.fn ?_
            refine wpAny_call (codeAny_mono (F.raw X.A.in1 X.stack s H [.ref a, .ref b] [.ref a, .ref b] (fun v H1 => v = .bl true ∧ ∃ ad1, Le X.K ad H ad1 H1 ∧ Rel T X.K ad1 H1 S') (fun _ _ _ => False) room.in1 I.env0.in1 (.cons rfl (.cons rfl .nil)) ⟨ad, S, _, R, .cons (.ref e1) (.cons (.ref e2) .nil), ?_⟩) fun r s' hq => ?_)
            · rw [hg]
              intro ad1 H1 v l1 R1 rv
              cases rv
              exact ⟨rfl, ad1, l1, R1⟩
            · cases r with
              | error er =>
                obtain ⟨_, _, _, _, _, _, _, _, _, _, _, _, z⟩ := hq
                exact z.elim
              | ok fl =>
                cases fl with
                | ret u2 =>
                  obtain ⟨v', H', I3, rv, hv, ad1, l1, R1⟩ := I.after hq
                  subst hv
                  cases rv
                  exact ⟨true, rfl, rfl, ad1, H', I3, l1, R1⟩
                | next => exact False.elim hq
                | brk => exact False.elim hq
                | cont => exact False.elim hq
          · cases h
        · cases h
    · cases h
/-- what the loop over the items keeps -/
def TupI (X : Cx) (T : Tab) (cc : Nat) (g1 : List W → M W) (pins : List (Addr × Obj)) (σ : L2.St) (ad : List Addr) (H : Hp) (xs ys : List W) (S' : Sto) (i : Nat) (s' : Shared) : Prop :=
  ∃ ad1 H1 S1, Inv X pins σ H1 s' ∧ Le X.K ad H ad1 H1 ∧ Rel T X.K ad1 H1 S1 ∧ eqsM cc g1 (xs.drop i) (ys.drop i) S1 = some S'
theorem tup_turn {X : Cx} {j : Nat} (g : Good m k c t sc N ow X) (hc : c = true) (Q : EqS m T cc ga) (F : FnM m T j ga n g1) (hj : j + 1 ≤ k) {pins : List (Addr × Obj)} {σ : L2.St} {H : Hp} {ad : List Addr} {S' : Sto} {xs ys : List W} {vs vs2 : List V} {its its2 : List Value}
    (rx : RelWs m.K ad H xs vs) (ry : RelWs m.K ad H ys vs2) (r : Vals vs its) (r2 : Vals vs2 its2) (i : Nat) (h1 : i < its.toArray.size) (h2 : i < its2.toArray.size) (s' : Shared) (l : TupI X T cc g1 pins σ ad H xs ys S' i s') :
    wpAny (model X.prog X.w) X.A.in1 (eqBool its.toArray[i] its2.toArray[i]) (fun r s2 => r = true ∧ TupI X T cc g1 pins σ ad H xs ys S' (i + 1) s2) X.xe s' := by
  have eK : m.K = X.K := by obtain ⟨rfl, _⟩ := g; rfl
  obtain ⟨ad1, H1, S1, I1, l1, R1, e⟩ := l
  have g1' : its[i]? = some its.toArray[i] := by
    have h1' : i < its.length := by simpa using h1
    rw [List.getElem?_eq_getElem h1'] <;> simp
  have g2' : its2[i]? = some its2.toArray[i] := by
    have h2' : i < its2.length := by simpa using h2
    rw [List.getElem?_eq_getElem h2'] <;> simp
  have k1 : i < xs.length := by rw [rx.length, r.length]; simpa using h1
  have k2 : i < ys.length := by rw [ry.length, r2.length]; simpa using h2
  rw [List.drop_eq_getElem_cons k1, List.drop_eq_getElem_cons k2, eqsM] at e
  split at e
  · rename_i S2 e2
    obtain ⟨u, hu, ru⟩ := rx.get (List.getElem?_eq_getElem k1)
    obtain ⟨v, hv, rv⟩ := ry.get (List.getElem?_eq_getElem k2)
    obtain ⟨u', hu', ru'⟩ := r.get hu
    obtain ⟨v', hv', rv'⟩ := r2.get hv
    rw [g1'] at hu'
    rw [g2'] at hv'
    rw [Option.some.inj hu', Option.some.inj hv']
    refine wpAny_mono (one_turn g hc Q F hj I1 (by rw [eK]; exact R1) (by rw [eK] at ru ⊢; exact ru.mono l1) (by rw [eK] at rv ⊢; exact rv.mono l1) ru' rv' e2) (fun r s2 q => ?_) fun _ _ x => x
    obtain ⟨hr, ad2, H2, I2, l2, R2⟩ := q
    rw [eK] at l2 R2
    exact ⟨hr, ad2, H2, S2, I2, l1.trans l2, R2, e⟩
  · cases e
theorem c_eqTup {j : Nat} (hc : c = true) (Q : EqS m T cc ga) (F : FnM m T j ga n g1) (hj : j + 1 ≤ k := by decide) : SC m T k c t sc N ow .Eq (eqTupM true cc g1) := .of fun X g E pins s σ H x y v u Q' I rx ry ⟨ad, S, w, z, R, rw', rz, h⟩ => by
  have gg := g
  have un := g.un
  obtain ⟨rfl, _⟩ := g
  unfold eqTupM at h
  split at h
  · rename_i xs ys
    split at h
    · rename_i S' he
      cases rw' with
      | tup s1 r1 =>
      cases rz with
      | tup s2 r2 =>
      cases rx
      cases ry
      obtain ⟨its, rv, e1, _⟩ := I.tuple s1
      obtain ⟨its2, rv2, e2, _⟩ := I.tuple s2
      have hl := eqsM_len he
      have hsz : its.toArray.size = its2.toArray.size := by rw [List.size_toArray, List.size_toArray, ← rv.length, ← rv2.length, ← r1.length, ← r2.length]; exact hl
      refine GQ.rc_tupG hsz (by omega) (TupI X T cc g1 pins σ ad H xs ys S') e1 e2 (fun i h1 h2 s' q => tup_turn gg hc Q F hj r1 r2 rv rv2 i h1 h2 s' q) (fun s' q => ?_) ⟨ad, H, S, I, Le.refl, R, by simpa using he⟩
      obtain ⟨ad1, H1, S1, I1, l1, R1, e⟩ := q
      rw [List.size_toArray, ← rv.length, ← r1.length, List.drop_length, hl, List.drop_length, eqsM] at e
      cases e
      exact ⟨.bl true, H1, I1, rfl, h _ _ _ l1 R1 (.bl true)⟩
    · exact h.elim
  · exact h.elim
theorem c_neTup {j : Nat} (hc : c = true) (Q : EqS m T cc ga) (F : FnM m T j ga n g1) (hj : j + 1 ≤ k := by decide) : SC m T k c t sc N ow .NotEq (eqTupM false cc g1) := .of fun X g E pins s σ H x y v u Q' I rx ry ⟨ad, S, w, z, R, rw', rz, h⟩ => by
  have gg := g
  have un := g.un
  obtain ⟨rfl, _⟩ := g
  unfold eqTupM at h
  split at h
  · rename_i xs ys
    split at h
    · rename_i S' he
      cases rw' with
      | tup s1 r1 =>
      cases rz with
      | tup s2 r2 =>
      cases rx
      cases ry
      obtain ⟨its, rv, e1, _⟩ := I.tuple s1
      obtain ⟨its2, rv2, e2, _⟩ := I.tuple s2
      have hl := eqsM_len he
      have hsz : its.toArray.size = its2.toArray.size := by rw [List.size_toArray, List.size_toArray, ← rv.length, ← rv2.length, ← r1.length, ← r2.length]; exact hl
      refine GQ.rc_tupNe hsz (by omega) (TupI X T cc g1 pins σ ad H xs ys S') e1 e2 (fun i h1 h2 s' q => tup_turn gg hc Q F hj r1 r2 rv rv2 i h1 h2 s' q) (fun s' q => ?_) ⟨ad, H, S, I, Le.refl, R, by simpa using he⟩
      obtain ⟨ad1, H1, S1, I1, l1, R1, e⟩ := q
      rw [List.size_toArray, ← rv.length, ← r1.length, List.drop_length, hl, List.drop_length, eqsM] at e
      cases e
      exact ⟨.bl false, H1, I1, rfl, h _ _ _ l1 R1 (.bl false)⟩
    · exact h.elim
  · exact h.elim
end
end RP

/-! RpAG: what is known of a state goes on to a later one. -/
namespace RP
open PySem L2
theorem _root_.Eq.up {S S' : Sto} {i : Nat} {o : Ob} (h : S[i]? = some o) (p : S <+: S') : S'[i]? = some o := Ext.get p h
theorem _root_.List.IsPrefix.up {S0 S S' : Sto} (h : S0 <+: S) (p : S <+: S') : S0 <+: S' := h.trans p
theorem Row.up {S S' : Sto} {r : Nat} (h : Row S r) (e : S <+: S') : Row S' r := h.fr e
theorem Fr.up {r : Nat} {S0 S S' : Sto} (h : Fr r S0 S) (e : S <+: S') : Fr r S0 S' := h.trans (Ext.fr e)
theorem pre1 {S : Sto} {o : Ob} : S <+: S ++ [o] := List.prefix_append _ _
end RP

/-! RpAH: comprehensions of two clauses. -/
namespace RP
open PySem L2
/-- the outer loop of a comprehension of two clauses; the inner one is lcM -/
def lc2M (v : View) (g : W → Slots → M Slots) (fi1 : Slots → M View) (g1 : W → Slots → M Slots) (test : Slots → M Bool) (elt : Slots → M W) (own1 : List Nat) (sl0 : Slots) : Nat → Nat → List W → M (List W)
  | 0, _, _ => stuck
  | f + 1, n, acc => fun S => match v S with
    | none => .bad
    | some ws => match ws[n]? with
      | none => .ok acc S
      | some w => match g w sl0 S with
        | .ok sl1 S1 => match fi1 sl1 S1 with
          | .ok v1 S2 => match v1 S2 with
            | none => .bad
            | some ws1 => match lcM v1 g1 test elt (wipeS sl1 own1) (ws1.length + 1) 0 acc S2 with
              | .ok acc' S3 => lc2M v g fi1 g1 test elt own1 sl0 f (n + 1) acc' S3
              | _ => .bad
          | _ => .bad
        | _ => .bad
def lc2V (v : View) (g : W → Slots → M Slots) (fi1 : Slots → M View) (g1 : W → Slots → M Slots) (test : Slots → M Bool) (elt : Slots → M W) (own1 : List Nat) (sl0 : Slots) : M W := fun S => match v S with
  | none => .bad
  | some ws => match lc2M v g fi1 g1 test elt own1 sl0 (ws.length + 1) 0 [] S with
    | .ok acc S' => .ok (.ref S'.length) (S' ++ [.lst acc])
    | _ => .bad
theorem Up.trans {K : PySem.W.Frag} {ad ad' ad2 : List Addr} {H H' H2 : Hp} (a : Up K ad H ad' H') (b : Up K ad' H' ad2 H2) : Up K ad H ad2 H2 := ⟨a.pre.trans b.pre, fun c vs h => b.fwd c vs (a.fwd c vs h)⟩
section
variable {m : Mo} {T : Tab} {k : Nat} {c t : Bool} {sc : Scope} {N ow : List Str} {tg iter tg1 iter1 elt : Expr} {ifs : List Expr} {scope : Scope} {gt gt1 : Tgt} {fi fi1 : Slots → M View} {ft : Slots → M Bool} {fe : Slots → M W} {pos : Pos}
theorem lc2_run {K : PySem.W.Frag} {ad : List Addr} {H : Hp} {S : Sto} {sl : Slots} {σ : L2.St} {Q : VK} {E : XK} {J : It} {v : View} {own own1 : List Nat} (R : Rel T K ad H S) (L : RelSl K ad H sl σ) (rJ : RelIt T K ad H v J) (hix : ∀ i ∈ gt.ix, i ∈ own) (hix1 : ∀ i ∈ gt1.ix, i ∈ own1)
    (h : run T K ad H (lc2V v gt.g fi1 gt1.g ft fe own1 (wipeS sl own) S) Q E) : ∀ D, H D = none → ∃ Wv : Nat → Nat → Hp → Prop, (∃ m, Wv 0 m (upd H D (.lst []))) ∧ ∀ i m H, Wv i m H →
  (J.stop i H ∧ Q (.ref D) H) ∨ (J.go i H ∧ ∃ Nx : Hp → Prop, (∀ H', Nx H' → ∃ m', m' < m ∧ Wv (i + 1) m' H') ∧ ∀ x H', J.yld i H x H' → gt.t K x (L2.wipe σ own) H' fun σ2 H2 => L2.wipe σ2 own = L2.wipe σ own ∧ rdT T K (fun _ => ret true) (fun _ _ _ _ => False) σ2 H2 fun b H3 =>
    if b = true then rdI T K fi1 (fun _ _ _ _ => False) σ2 H3 fun J1 H4 => ∃ W1 : Nat → Nat → Hp → Prop, (∃ m, W1 0 m H4) ∧ ∀ j k H, W1 j k H →
      (J1.stop j H ∧ Nx H) ∨ (J1.go j H ∧ ∃ Nx1 : Hp → Prop, (∀ H', Nx1 H' → ∃ k', k' < k ∧ W1 (j + 1) k' H') ∧ ∀ x H', J1.yld j H x H' → gt1.t K x (L2.wipe σ2 own1) H' fun σ3 H5 => L2.wipe σ3 own1 = L2.wipe σ2 own1 ∧ rdT T K ft (fun _ _ _ _ => False) σ3 H5 fun b H6 =>
        if b = true then rd T K fe (fun _ _ _ _ => False) σ3 H6 fun y H7 => ∃ acc, H7 D = some (.lst acc) ∧ acc.length < sizeLine ∧ Nx1 (upd H7 D (.lst (acc ++ [y]))) else Nx1 H6)
    else Nx H3) := by
  intro D hD
  unfold lc2V at h
  split at h
  · exact h.elim
  · rename_i ws0 e0
    generalize hf : ws0.length + 1 = fuel at h
    refine ⟨fun i n H1 => ∃ ad1 S1 acc vs, Le K ad H ad1 H1 ∧ D ∉ ad1 ∧ Rel T K ad1 H1 S1 ∧ H1 D = some (.lst vs) ∧ RelWs K ad1 H1 acc vs ∧
      run T K ad H (match lc2M v gt.g fi1 gt1.g ft fe own1 (wipeS sl own) n i acc S1 with | .ok acc S' => .ok (.ref S'.length) (S' ++ [.lst acc]) | _ => .bad) Q E, ?_, ?_⟩
    · exact ⟨fuel, ad, S, [], [], Le.same0 (same_new hD), R.new hD, R.same (same_new hD), upd_same, .nil, h⟩
    · rintro i n H1 ⟨ad1, S1, acc, vs, l1, hd1, R1, eD, ra, h1⟩
      cases n with
      | zero => exact h1.elim
      | succ n =>
        unfold lc2M at h1
        cases ev : v S1 with
        | none => rw [ev] at h1; exact h1.elim
        | some ws =>
          rw [ev] at h1
          dsimp only at h1
          obtain ⟨go, stop, yld⟩ := rJ ad1 H1 S1 l1.up R1 ws ev i
          cases ew : ws[i]? with
          | none =>
            rw [ew] at h1
            refine .inl ⟨stop (List.getElem?_eq_none_iff.mp ew), ?_⟩
            refine h1 (ad1 ++ [D]) H1 (.ref D) ⟨l1.pre.trans ⟨_, rfl⟩, l1.fwd, fun b hb hn => ?_, l1.frm, l1.xd, l1.own, l1.dom⟩ (R1.take hd1 eD ra) (.ref (by rw [← R1.len]; simp))
            rcases List.mem_append.mp hb with hb | hb
            · exact l1.new b hb hn
            · have : b = D := by simpa using hb
              rw [this]; exact hD
          | some w =>
            rw [ew] at h1
            dsimp only at h1
            refine .inr ⟨go (List.getElem?_eq_some_iff.mp ew).1, fun H' => ∃ ad1 S1 acc vs, Le K ad H ad1 H' ∧ D ∉ ad1 ∧ Rel T K ad1 H' S1 ∧ H' D = some (.lst vs) ∧ RelWs K ad1 H' acc vs ∧
              run T K ad H (match lc2M v gt.g fi1 gt1.g ft fe own1 (wipeS sl own) n (i + 1) acc S1 with | .ok acc S' => .ok (.ref S'.length) (S' ++ [.lst acc]) | _ => .bad) Q E, fun H' hN => ⟨n, Nat.lt_succ_self n, hN⟩, fun x H2 y => ?_⟩
            obtain ⟨sm, rx⟩ := yld x H2 y w ew
            have l2 : Le K ad1 H1 ad1 H2 := Le.same0 sm
            have R2 := R1.same sm
            cases eg : gt.g w (wipeS sl own) S1 with
            | ok sl2 S2 =>
              rw [eg] at h1
              dsimp only at h1
              refine tgt_run R2 (((L.mono l1).mono l2).wipe own) rx eg fun σ2 eS L2 hw => ⟨?_, ?_⟩
              · rw [hw own hix]
                exact wipe_wipe σ own
              subst eS
              refine ⟨ad1, S2, sl2, R2, L2, ?_⟩
              intro ad3 H3 l3 R3
              rw [if_pos rfl]
              refine ⟨ad3, S2, sl2, R3, L2.mono l3, ?_⟩
              have keepD : ∀ {ad3 : List Addr} {H3 : Hp}, Le K ad1 H2 ad3 H3 → H3 D = some (.lst vs) ∧ D ∉ ad3 := fun {ad3 H3} l3 => by
                refine ⟨l3.frm D _ (sm _ _ eD) trivial hd1, fun hm => ?_⟩
                have z := l3.new D hm hd1
                rw [sm _ _ eD] at z; cases z
              cases ei : fi1 sl2 S2 with
              | ok v1 S4 =>
                rw [ei] at h1
                dsimp only at h1
                intro ad4 H4 J1 l4 R4 rJ1
                cases ev1 : v1 S4 with
                | none => rw [ev1] at h1; exact h1.elim
                | some ws1 =>
                  rw [ev1] at h1
                  dsimp only at h1
                  obtain ⟨eD4, hd4⟩ := keepD (l3.trans l4)
                  have lA : Le K ad H ad4 H4 := ((l1.trans l2).trans l3).trans l4
                  have L4 : RelSl K ad4 H4 sl2 σ2 := (L2.mono l3).mono l4
                  refine ⟨fun j kk H5 => ∃ ad5 S5 acc5 vs5, Le K ad H ad5 H5 ∧ Up K ad4 H4 ad5 H5 ∧ D ∉ ad5 ∧ Rel T K ad5 H5 S5 ∧ H5 D = some (.lst vs5) ∧ RelWs K ad5 H5 acc5 vs5 ∧
                    run T K ad H (match (match lcM v1 gt1.g ft fe (wipeS sl2 own1) kk j acc5 S5 with | .ok acc' S3 => lc2M v gt.g fi1 gt1.g ft fe own1 (wipeS sl own) n (i + 1) acc' S3 | _ => .bad) with | .ok acc S' => .ok (.ref S'.length) (S' ++ [.lst acc]) | _ => .bad) Q E, ⟨ws1.length + 1, ad4, S4, acc, vs, lA, Le.refl.up, hd4, R4, eD4, (((ra.mono l2).mono l3).mono l4), h1⟩, ?_⟩
                  rintro j kk H5 ⟨ad5, S5, acc5, vs5, l5, u5, hd5, R5, eD5, ra5, h5⟩
                  cases kk with
                  | zero => exact h5.elim
                  | succ kk =>
                    unfold lcM at h5
                    cases ev5 : v1 S5 with
                    | none => rw [ev5] at h5; exact h5.elim
                    | some ws5 =>
                      rw [ev5] at h5
                      dsimp only at h5
                      obtain ⟨go1, stop1, yld1⟩ := rJ1 ad5 H5 S5 u5 R5 ws5 ev5 j
                      cases ew5 : ws5[j]? with
                      | none =>
                        rw [ew5] at h5
                        exact .inl ⟨stop1 (List.getElem?_eq_none_iff.mp ew5), ad5, S5, acc5, vs5, l5, hd5, R5, eD5, ra5, h5⟩
                      | some w5 =>
                        rw [ew5] at h5
                        dsimp only at h5
                        refine .inr ⟨go1 (List.getElem?_eq_some_iff.mp ew5).1, fun H' => ∃ ad5 S5 acc5 vs5, Le K ad H ad5 H' ∧ Up K ad4 H4 ad5 H' ∧ D ∉ ad5 ∧ Rel T K ad5 H' S5 ∧ H' D = some (.lst vs5) ∧ RelWs K ad5 H' acc5 vs5 ∧
                          run T K ad H (match (match lcM v1 gt1.g ft fe (wipeS sl2 own1) kk (j + 1) acc5 S5 with | .ok acc' S3 => lc2M v gt.g fi1 gt1.g ft fe own1 (wipeS sl own) n (i + 1) acc' S3 | _ => .bad) with | .ok acc S' => .ok (.ref S'.length) (S' ++ [.lst acc]) | _ => .bad) Q E, fun H' hN => ⟨kk, Nat.lt_succ_self kk, hN⟩, fun x5 H6 y5 => ?_⟩
                        obtain ⟨sm6, rx6⟩ := yld1 x5 H6 y5 w5 ew5
                        have l6 : Le K ad5 H5 ad5 H6 := Le.same0 sm6
                        have R6 := R5.same sm6
                        cases eg6 : gt1.g w5 (wipeS sl2 own1) S5 with
                        | ok sl6 S6 =>
                          rw [eg6] at h5
                          dsimp only at h5
                          refine tgt_run R6 (((L4.up u5).mono l6).wipe own1) rx6 eg6 fun σ6 eS6 L6 hw6 => ⟨?_, ?_⟩
                          · rw [hw6 own1 hix1]
                            exact wipe_wipe σ2 own1
                          subst eS6
                          refine ⟨ad5, S6, sl6, R6, L6, ?_⟩
                          have keepD6 : ∀ {ad7 : List Addr} {H7 : Hp}, Le K ad5 H6 ad7 H7 → H7 D = some (.lst vs5) ∧ D ∉ ad7 := fun {ad7 H7} l7 => by
                            refine ⟨l7.frm D _ (sm6 _ _ eD5) trivial hd5, fun hm => ?_⟩
                            have z := l7.new D hm hd5
                            rw [sm6 _ _ eD5] at z; cases z
                          cases et6 : ft sl6 S6 with
                          | ok b S7 =>
                            rw [et6] at h5
                            intro ad7 H7 l7 R7
                            obtain ⟨eD7, hd7⟩ := keepD6 l7
                            cases b with
                            | false =>
                              rw [if_neg Bool.false_ne_true]
                              exact ⟨ad7, S7, acc5, vs5, (l5.trans l6).trans l7, u5.trans (l6.trans l7).up, hd7, R7, eD7, (ra5.mono l6).mono l7, h5⟩
                            | true =>
                              rw [if_pos rfl]
                              dsimp only at h5
                              refine ⟨ad7, S7, sl6, R7, L6.mono l7, ?_⟩
                              cases ee7 : fe sl6 S7 with
                              | ok yw S8 =>
                                rw [ee7] at h5
                                dsimp only at h5
                                intro ad8 H8 yv l8 R8 ry
                                obtain ⟨eD8, hd8⟩ := keepD6 (l7.trans l8)
                                by_cases hz : acc5.length < sizeLine
                                · rw [if_pos hz] at h5
                                  have ra8 := ((ra5.mono l6).mono l7).mono l8
                                  have b9 : But D H8 (upd H8 D (.lst (vs5 ++ [yv]))) := But.upd eD8 trivial
                                  have u9 : Up K ad8 H8 ad8 (upd H8 D (.lst (vs5 ++ [yv]))) := ⟨List.prefix_rfl, fun a xs q => by
                                    rcases q with (q | ⟨o, q⟩) | q
                                    · exact .inl (.inl (b9.tup _ _ q))
                                    · exact .inl (.inr ⟨o, b9.keep _ _ (fun z => by rw [z, eD8] at q; cases q) trivial q⟩)
                                    · exact .inr q⟩
                                  exact ⟨vs5, eD8, by rw [← ra8.length]; exact hz, ad8, S8, acc5 ++ [yw], vs5 ++ [yv], (((l5.trans l6).trans l7).trans l8).off hD eD8, (u5.trans ((l6.trans l7).trans l8).up).trans u9, hd8, R8.off hd8 u9 b9 (by rw [eD8]; intro z; cases z) (by intro x; rw [eD8]; intro z; cases z), upd_same, (ra8.append (.cons ry .nil)).up u9, h5⟩
                                · rw [if_neg hz] at h5; exact h5.elim
                              | ex x S => rw [ee7] at h5; exact h5.elim
                              | bad => rw [ee7] at h5; exact h5.elim
                          | ex x S => rw [et6] at h5; exact h5.elim
                          | bad => rw [et6] at h5; exact h5.elim
                        | ex x S => rw [eg6] at h5; exact h5.elim
                        | bad => rw [eg6] at h5; exact h5.elim
              | ex x S => rw [ei] at h1; exact h1.elim
              | bad => rw [ei] at h1; exact h1.elim
            | ex x S => rw [eg] at h1; exact h1.elim
            | bad => rw [eg] at h1; exact h1.elim
theorem lc2_pi {own : List (Str × Nat)} {own1 : List Nat} (hix : ∀ i ∈ gt.ix, i ∈ own.map (·.2)) (hix1 : ∀ i ∈ gt1.ix, i ∈ own1) {Wx : WX} {σ : L2.St} {H : Hp} {Q : VK} (h : rd T m.K (fun sl => bdI (fi sl) fun v => lc2V v gt.g fi1 gt1.g ft fe own1 (wipeS sl (own.map (·.2)))) Wx σ H Q) :
    tLc2 (rdI T m.K fi Wx) (gt.t m.K) (rdT T m.K (fun _ => ret true) (fun _ _ _ _ => False)) (rdI T m.K fi1 (fun _ _ _ _ => False)) (gt1.t m.K) (rdT T m.K ft (fun _ _ _ _ => False)) (rd T m.K fe (fun _ _ _ _ => False)) (own.map (·.2)) own1 σ H Q := by
  obtain ⟨ad, S, sl, R, L, h⟩ := h
  refine ⟨ad, S, sl, R, L, runI_imp (run_bdI h) ?_⟩
  rintro J H1 ⟨ad1, S1, v, l1, R1, r1, h1⟩
  exact lc2_run R1 (L.mono l1) r1 hix hix1 h1
/-- [elt for target in iter for target1 in iter1 if ..] -/
theorem e_lc2 (own : List (Str × Nat)) (own1 : List Nat) (hc : c = true) (hi : SIt m T k c t sc N ow tg iter fi) (hok : blkC N sc scope own = true) (hg : STg m T k c false (relS scope sc) N (cellsOf scope) tg gt)
    (hi1 : SIt m T k c false (relS scope sc) N (cellsOf scope) tg1 iter1 fi1) (hg1 : STg m T k c false (relS scope sc) N (cellsOf scope) tg1 gt1) (ht : STs m T k c false (relS scope sc) N (cellsOf scope) ifs ft)
    (he : SE m T k c false (relS scope sc) N (cellsOf scope) elt fe) (hix : ∀ i ∈ gt.ix, i ∈ own.map (·.2) := by decide) (hix1 : ∀ i ∈ gt1.ix, i ∈ own1 := by decide) (hv : ∀ i ∈ own1, i ∈ own.map (·.2) := by decide) (hs : ∀ env x, foldedSetIterable iter env x = pure x := by intro _ _; rfl) (hs1 : ∀ env x, foldedSetIterable iter1 env x = pure x := by intro _ _; rfl) :
    SE m T k c t sc N ow (.ListComp elt [⟨tg, iter, [], 0⟩, ⟨tg1, iter1, ifs, 0⟩] scope pos) (fun sl => bdI (fi sl) fun v => lc2V v gt.g fi1 gt1.g ft fe own1 (wipeS sl (own.map (·.2)))) := fun X g Wx tk => by
  have ok := blkOk_by hok
  refine (pe_lc2 (own := own) (vs1 := own1) (g.calm hc) (by rw [g.hN]; exact g.nd) (hi X g Wx tk) (by rw [g.hN, g.hsc]; exact ok) hv (fun s H C cl fp => hg _ (good_blk g ok.uniq s H C cl fp)) (fun s H C cl fp => ts_nil (T := T) _ (good_blk g ok.uniq s H C cl fp) _ takes_blk)
    (fun s H C cl fp => hi1 _ (good_blk g ok.uniq s H C cl fp) _ takes_blk) (fun s H C cl fp => hg1 _ (good_blk g ok.uniq s H C cl fp)) (fun s H C cl fp => ht _ (good_blk g ok.uniq s H C cl fp) _ takes_blk)
    (fun s H C cl fp => he _ (good_blk g ok.uniq s H C cl fp) _ takes_blk) (hs _) hs1).imp fun σ H Q h => lc2_pi hix hix1 h
/-- name = [.. for .. for ..], the name a local, on one line -/
theorem s_setLc2 (own : List (Str × Nat)) (own1 : List Nat) (i : Nat) {y : Str} {py spos : Pos} (hc : c = true) (hi : SIt m T k c t sc N ow tg iter fi) (hok : blkC N sc scope own = true) (hg : STg m T k c false (relS scope sc) N (cellsOf scope) tg gt)
    (hi1 : SIt m T k c false (relS scope sc) N (cellsOf scope) tg1 iter1 fi1) (hg1 : STg m T k c false (relS scope sc) N (cellsOf scope) tg1 gt1) (ht : STs m T k c false (relS scope sc) N (cellsOf scope) ifs ft)
    (he : SE m T k c false (relS scope sc) N (cellsOf scope) elt fe) (hix : ∀ i ∈ gt.ix, i ∈ own.map (·.2) := by decide) (hix1 : ∀ i ∈ gt1.ix, i ∈ own1 := by decide) (hv : ∀ i ∈ own1, i ∈ own.map (·.2) := by decide)
    (hy : N[i]? = some y := by rfl) (hyl : sc.names.lookup y = some .local := by rfl) (hk : sc.kind = .function := by rfl) (hl : (py.line == pos.line) = true := by rfl)
    (ha : (scope.names.any fun (n, k) => n == y && (k == .local || k == .cell)) = false := by decide +kernel) (hs : ∀ env x, foldedSetIterable iter env x = pure x := by intro _ _; rfl) (hs1 : ∀ env x, foldedSetIterable iter1 env x = pure x := by intro _ _; rfl) :
    SS m T k c t sc N ow (.Assign [.Name y py] (.ListComp elt [⟨tg, iter, [], 0⟩, ⟨tg1, iter1, ifs, 0⟩] scope pos) spos) (fun sl => exS sl (bdI (fi sl) fun v => lc2V v gt.g fi1 gt1.g ft fe own1 (wipeS sl (own.map (·.2)))) fun w => ret (.nx (sl.set i (some w)))) := fun X g Wx tk => by
  have ok := blkOk_by hok
  refine (ps_setLc2 (i := i) (own := own) (vs1 := own1) (g.calm hc) (by rw [g.hN]; exact g.nd) (by rw [g.hN]; exact hy) (by rw [g.hsc]; exact hyl) (sw_true (by rw [g.hsc]; exact hk) (by rw [g.hsc]; exact hyl) hl ha) (hi X g Wx tk) (by rw [g.hN, g.hsc]; exact ok) hv (fun s H C cl fp => hg _ (good_blk g ok.uniq s H C cl fp)) (fun s H C cl fp => ts_nil (T := T) _ (good_blk g ok.uniq s H C cl fp) _ takes_blk)
    (fun s H C cl fp => hi1 _ (good_blk g ok.uniq s H C cl fp) _ takes_blk) (fun s H C cl fp => hg1 _ (good_blk g ok.uniq s H C cl fp)) (fun s H C cl fp => ht _ (good_blk g ok.uniq s H C cl fp) _ takes_blk)
    (fun s H C cl fp => he _ (good_blk g ok.uniq s H C cl fp) _ takes_blk) (hs _) hs1).imp fun D σ H h => ?_
  obtain ⟨ad, S, sl, R, L, h⟩ := h
  refine lc2_pi hix hix1 ⟨ad, S, sl, R, L, run_imp (run_exS L h) ?_⟩
  rintro v H1 ⟨ad1, S1, w1, l1, R1, r1, h1⟩
  exact runS_nx R1 ((L.mono l1).set r1 i) h1
end
/-- the inner loop, a plain map with a test, in a state that stays -/
theorem lcM_stay {v : View} {g : W → Slots → M Slots} {test : Slots → M Bool} {elt : Slots → M W} {sl0 : Slots} {ws : List W} {S : Sto} (p : W → Bool) (F : W → W) (hv : v S = some ws)
    (he : ∀ w ∈ ws, ∃ sl1, g w sl0 S = .ok sl1 S ∧ test sl1 S = .ok (p w) S ∧ (p w = true → elt sl1 S = .ok (F w) S)) :
    ∀ (f n : Nat) (acc : List W), n + f = ws.length + 1 → n ≤ ws.length → acc.length + (ws.length - n) ≤ sizeLine → lcM v g test elt sl0 f n acc S = .ok (acc ++ ((ws.drop n).filter p).map F) S := by
  intro f
  induction f with
  | zero => intro n acc h1 h2; omega
  | succ f ih =>
    intro n acc h1 h2 hz
    unfold lcM
    rw [hv]
    dsimp only
    by_cases hn : n < ws.length
    · have hw : ws[n]? = some ws[n] := List.getElem?_eq_getElem hn
      obtain ⟨sl1, e1, e2, e3⟩ := he _ (List.getElem_mem hn)
      rw [hw, List.drop_eq_getElem_cons hn]
      simp only [e1, e2]
      cases q : p ws[n] with
      | false =>
        rw [List.filter_cons_of_neg (by rw [q]; decide)]
        exact ih (n + 1) acc (by omega) (by omega) (by omega)
      | true =>
        simp only [e3 q]
        rw [if_pos (by omega), ih (n + 1) (acc ++ [F ws[n]]) (by omega) (by omega) (by simp; omega), List.filter_cons_of_pos q, List.map_cons, List.append_assoc]
        rfl
    · have hw : ws[n]? = none := List.getElem?_eq_none (by omega)
      rw [hw, List.drop_of_length_le (by omega)]
      simp
theorem lc2V_stay {v : View} {g : W → Slots → M Slots} {fi1 : Slots → M View} {g1 : W → Slots → M Slots} {test : Slots → M Bool} {elt : Slots → M W} {own1 : List Nat} {sl0 : Slots} {ws : List W} {S : Sto} (ins : W → List W) (p : W → W → Bool) (F : W → W → W) (hv : v S = some ws)
    (he : ∀ w ∈ ws, ∃ sl1 v1, g w sl0 S = .ok sl1 S ∧ fi1 sl1 S = .ok v1 S ∧ v1 S = some (ins w) ∧ ∀ u ∈ ins w, ∃ sl2, g1 u (wipeS sl1 own1) S = .ok sl2 S ∧ test sl2 S = .ok (p w u) S ∧ (p w u = true → elt sl2 S = .ok (F w u) S))
    (hz : (ws.map fun w => (ins w).length).sum ≤ sizeLine) :
    lc2V v g fi1 g1 test elt own1 sl0 S = .ok (.ref S.length) (S ++ [.lst (ws.flatMap fun w => ((ins w).filter (p w)).map (F w))]) := by
  have main : ∀ (f n : Nat) (acc : List W), n + f = ws.length + 1 → n ≤ ws.length → acc.length + ((ws.drop n).map fun w => (ins w).length).sum ≤ sizeLine → lc2M v g fi1 g1 test elt own1 sl0 f n acc S = .ok (acc ++ (ws.drop n).flatMap fun w => ((ins w).filter (p w)).map (F w)) S := by
    intro f
    induction f with
    | zero => intro n acc h1 h2; omega
    | succ f ih =>
      intro n acc h1 h2 hz
      unfold lc2M
      rw [hv]
      dsimp only
      by_cases hn : n < ws.length
      · have hw : ws[n]? = some ws[n] := List.getElem?_eq_getElem hn
        obtain ⟨sl1, v1, e1, e2, e3, e4⟩ := he _ (List.getElem_mem hn)
        rw [List.drop_eq_getElem_cons hn, List.map_cons, List.sum_cons] at hz
        have il := lcM_stay (v := v1) (g := g1) (test := test) (elt := elt) (sl0 := wipeS sl1 own1) (p ws[n]) (F ws[n]) e3 e4 ((ins ws[n]).length + 1) 0 acc (by omega) (by omega) (by omega)
        rw [hw, List.drop_eq_getElem_cons hn]
        simp only [e1, e2, e3, il, List.drop_zero]
        have fl := List.length_filter_le (p ws[n]) (ins ws[n])
        rw [ih (n + 1) _ (by omega) (by omega) (by rw [List.length_append, List.length_map]; omega), List.flatMap_cons, List.append_assoc]
      · have hw : ws[n]? = none := List.getElem?_eq_none (by omega)
        rw [hw, List.drop_of_length_le (by omega)]
        simp
  unfold lc2V
  rw [hv]
  dsimp only
  rw [main (ws.length + 1) 0 [] (by omega) (by omega) (by simpa using hz)]
  simp
end RP

/-! P31: the least of a list of data; subsets. -/
namespace RP
open PySem L2
open PySem.W (alike alikeAll dataLt AlikeAll dataLt_tuple dataLt_int dataLt_all_yes dataLt_all_no keyToksAll)
theorem argBest_le (bt : Nat → Nat → Bool) : ∀ n, argBest bt n ≤ n
  | 0 => Nat.le_refl _
  | n + 1 => by
    have := argBest_le bt n
    unfold argBest
    split <;> omega
theorem argBest_is (bt : Nat → Nat → Bool) (P : Nat → Prop) (n : Nat) (h : ∀ i j, i ≤ n → j ≤ n → P i → ¬ P j → bt i j = true ∧ bt j i = false) : (∃ i, i ≤ n ∧ P i) → P (argBest bt n) := by
  induction n with
  | zero => rintro ⟨i, hi, p⟩; have : i = 0 := by omega
            subst this; exact p
  | succ n ih =>
    rintro ⟨i, hi, p⟩
    have ih := ih fun i j a b => h i j (by omega) (by omega)
    have hb := argBest_le bt n
    unfold argBest
    by_cases hq : P (argBest bt n)
    · split
      · rename_i e
        by_cases hn : P (n + 1)
        · exact hn
        · have := (h _ _ (by omega) (Nat.le_refl _) hq hn).2
          rw [this] at e
          cases e
      · exact hq
    · have hn : P (n + 1) := by
        by_cases e : i = n + 1
        · subst e; exact p
        · exact absurd (ih ⟨i, by omega, p⟩) hq
      have := (h _ _ (Nat.le_refl _) (by omega) hn hq).1
      rw [if_pos this]
      exact hn
theorem minM_r {S : Sto} {i n : Nat} {α : Type} {f : α → W} {g : α → PyData} {l : List α} {a : α} (hi : S[i]? = some (.lst (l.map f))) (hd : ∀ a ∈ l, Dm n S (f a) (g a)) (hn : n ≤ 9) (hal : ∀ a ∈ l, ∀ b ∈ l, alike (g a) (g b) = true) (h0 : ∀ a ∈ l, g a ≠ .none)
    (ha : a ∈ l) (hb : ∀ b ∈ l, b = a ∨ (dataLt (g a) (g b) = true ∧ dataLt (g b) (g a) = false)) : minM [.ref i] S = .ok (f a) S := by
  have e1 : (l.map f).mapM (dat 9 S) = some (l.map g) := dat_map fun a ha => ((hd a ha).at9 hn).e
  have e2 : alikeB (l.map g) = true := by
    unfold alikeB
    rw [List.all_eq_true]
    intro x hx
    obtain ⟨a, ha, rfl⟩ := List.mem_map.mp hx
    rw [Bool.and_eq_true, List.all_eq_true]
    refine ⟨?_, fun y hy => ?_⟩
    · have := h0 a ha
      split
      · rename_i e; exact absurd e this
      · rfl
    · obtain ⟨b, hb, rfl⟩ := List.mem_map.mp hy
      exact hal a ha b hb
  have e3 : (!(l.map g).isEmpty) = true := by
    cases l with
    | nil => cases ha
    | cons x l => rfl
  have e4 : PyData.depthAll (l.map g) ≤ 60 := by
    have := deep_map (n := 9) (g := g) (l := l) fun a ha => ((hd a ha).at9 hn).p
    omega
  have hlen : 0 < l.length := List.length_pos_of_mem ha
  obtain ⟨i0, hi0, ei0⟩ := List.mem_iff_getElem.mp ha
  have gd : ∀ (j : Nat) (hj : j < l.length), (l.map g).getD j .none = g l[j] := fun j hj => by
    rw [List.getD_eq_getElem?_getD, List.getElem?_map, List.getElem?_eq_getElem hj]
    rfl
  have best : l[minIx (l.map g)]? = some a := by
    unfold minIx
    rw [List.length_map]
    refine argBest_is _ (fun j => l[j]? = some a) (l.length - 1) (fun j k hj hk pj nk => ?_) ⟨i0, by omega, by rw [List.getElem?_eq_getElem hi0, ei0]⟩
    obtain ⟨kj, ej⟩ := List.getElem?_eq_some_iff.mp pj
    have kk : k < l.length := by omega
    rw [gd j kj, gd k kk, ej]
    rcases hb l[k] (List.getElem_mem kk) with e | e
    · exact absurd (by rw [List.getElem?_eq_getElem kk, e]) nk
    · exact e
  have e5 : (l.map f)[minIx (l.map g)]? = some (f a) := by
    rw [List.getElem?_map, best]
    rfl
  simp only [minM, hi, e1, e2, e3, e4, Bool.and_self, decide_true, if_true, e5]
/-! ### rows of numbers -/
def dN (s : List Nat) : PyData := .tuple (s.map fun (c : Nat) => PyData.int c)
theorem alike_ints : ∀ s t : List Nat, alikeAll (s.map fun (c : Nat) => PyData.int c) (t.map fun (c : Nat) => PyData.int c) = true
  | [], _ => by simp [alikeAll]
  | _ :: _, [] => by simp [alikeAll]
  | a :: s, b :: t => by
    rw [List.map_cons, List.map_cons, alikeAll, alike_ints s t]
    rfl
theorem alike_dN (s t : List Nat) : alike (dN s) (dN t) = true := by
  unfold dN
  rw [alike]
  exact alike_ints s t
/-- the order of rows of numbers -/
def lexN : List Nat → List Nat → Bool
  | [], [] => false
  | [], _ :: _ => true
  | _ :: _, [] => false
  | a :: s, b :: t => decide (a < b) || (decide (a = b) && lexN s t)
theorem lt_ints : ∀ s t : List Nat, PyProof.Rows.lexLt PyProof.Rows.itemOrd (keyToksAll (s.map fun (c : Nat) => PyData.int c)) (keyToksAll (t.map fun (c : Nat) => PyData.int c)) = lexN s t
  | [], [] => by decide
  | [], b :: t => by
    rw [List.map_nil, List.map_cons, PySem.W.toks_all_cons]
    simp only [keyToksAll]
    rw [PyProof.Rows.lex_diff (by simp)]
    rfl
  | a :: s, [] => by
    rw [List.map_nil, List.map_cons, PySem.W.toks_all_cons]
    simp only [keyToksAll]
    rw [PyProof.Rows.lex_diff (by simp)]
    rfl
  | a :: s, b :: t => by
    rw [List.map_cons, List.map_cons]
    have al : alike (.int (a : Nat)) (.int (b : Nat)) = true := rfl
    by_cases h : a = b
    · subst h
      rw [dataLt_all_yes al (by simp [PyData.eqv]), lt_ints s t]
      simp [lexN]
    · rw [dataLt_all_no al (by rw [PyData.eqv]; exact beq_eq_false_iff_ne.mpr (by omega)), dataLt_int]
      simp only [lexN, h, decide_false, Bool.false_and, Bool.or_false]
      congr 1
      simp
theorem lt_dN (s t : List Nat) : dataLt (dN s) (dN t) = lexN s t := by
  unfold dN
  rw [dataLt_tuple]
  exact lt_ints s t
/-! ### (how many, which) -/
def dP (s : List Nat) : PyData := .tuple [.int (s.length : Nat), dN s]
theorem alike_dP (s t : List Nat) : alike (dP s) (dP t) = true := by
  unfold dP
  rw [alike, alikeAll, alikeAll, alike_dN s t]
  rfl
theorem lt_dP {s t : List Nat} (h : s.length ≠ t.length) : dataLt (dP s) (dP t) = decide (s.length < t.length) := by
  unfold dP
  rw [dataLt_tuple, dataLt_all_no rfl (by rw [PyData.eqv]; exact beq_eq_false_iff_ne.mpr (by omega)), dataLt_int]
  congr 1
  simp
/-! ### subsets -/
def subs : Nat → List (List Nat)
  | 0 => [[]]
  | n + 1 => subs n ++ (subs n).map fun s => s ++ [n]
theorem subs_len : ∀ n, (subs n).length = 2 ^ n
  | 0 => rfl
  | n + 1 => by
    rw [subs, List.length_append, List.length_map, subs_len n, Nat.pow_succ]
    omega
theorem subs_ok : ∀ n, ∀ s ∈ subs n, s.Pairwise (· < ·) ∧ (∀ c ∈ s, c < n) ∧ s.length ≤ n
  | 0, s, h => by
    rw [subs, List.mem_singleton] at h
    subst h
    simp
  | n + 1, s, h => by
    rw [subs] at h
    rcases List.mem_append.mp h with h | h
    · obtain ⟨a, b, c⟩ := subs_ok n s h
      exact ⟨a, fun c hc => Nat.lt_succ_of_lt (b c hc), by omega⟩
    · obtain ⟨t, ht, rfl⟩ := List.mem_map.mp h
      obtain ⟨a, b, c⟩ := subs_ok n t ht
      refine ⟨?_, fun c hc => ?_, by simp; omega⟩
      · rw [List.pairwise_append]
        exact ⟨a, by simp, fun x hx y hy => by rw [List.mem_singleton.mp hy]; exact b x hx⟩
      · rcases List.mem_append.mp hc with h | h
        · exact Nat.lt_succ_of_lt (b c h)
        · rw [List.mem_singleton.mp h]; omega
theorem subs_all : ∀ n, ∀ s : List Nat, s.Pairwise (· < ·) → (∀ c ∈ s, c < n) → s ∈ subs n
  | 0, s, _, h => by
    cases s with
    | nil => simp [subs]
    | cons c s => exact absurd (h c (by simp)) (by omega)
  | n + 1, s, hp, h => by
    rw [subs, List.mem_append]
    by_cases hn : n ∈ s
    · right
      rcases List.eq_nil_or_concat s with rfl | ⟨t, x, rfl⟩
      · cases hn
      · rw [List.concat_eq_append] at *
        rw [List.pairwise_append] at hp
        have hx : x = n := by
          rcases List.mem_append.mp hn with h1 | h1
          · have := hp.2.2 n h1 x (by simp)
            have := h x (by simp)
            omega
          · exact (List.mem_singleton.mp h1).symm
        subst hx
        refine List.mem_map.mpr ⟨t, subs_all x t hp.1 (fun c hc => ?_), rfl⟩
        exact hp.2.2 c hc x (by simp)
    · left
      refine subs_all n s hp fun c hc => ?_
      have := h c hc
      have : c ≠ n := fun e => hn (e ▸ hc)
      omega
theorem inc_nodup {s : List Nat} (h : s.Pairwise (· < ·)) : s.Nodup := h.imp fun h => Nat.ne_of_lt h
theorem inc_ext : ∀ {s t : List Nat}, s.Pairwise (· < ·) → t.Pairwise (· < ·) → (∀ c, c ∈ s ↔ c ∈ t) → s = t
  | [], [], _, _, _ => rfl
  | [], b :: t, _, _, h => absurd ((h b).mpr (by simp)) (by simp)
  | a :: s, [], _, _, h => absurd ((h a).mp (by simp)) (by simp)
  | a :: s, b :: t, hs, ht, h => by
    rw [List.pairwise_cons] at hs ht
    have e : a = b := by
      have h1 := (h a).mp (by simp)
      have h2 := (h b).mpr (by simp)
      rcases List.mem_cons.mp h1 with e | e
      · exact e
      · rcases List.mem_cons.mp h2 with e2 | e2
        · exact e2.symm
        · have := ht.1 a e
          have := hs.1 b e2
          omega
    subst e
    have hr : s = t := inc_ext hs.2 ht.2 fun c => by
      constructor
      · intro hc
        have h1 := hs.1 c hc
        rcases List.mem_cons.mp ((h c).mp (by simp [hc])) with e | e
        · omega
        · exact e
      · intro hc
        have h1 := ht.1 c hc
        rcases List.mem_cons.mp ((h c).mpr (by simp [hc])) with e | e
        · omega
        · exact e
    rw [hr]
theorem inc_sublist : ∀ {s t : List Nat}, s.Pairwise (· < ·) → t.Pairwise (· < ·) → (∀ c ∈ s, c ∈ t) → s.Sublist t
  | [], t, _, _, _ => List.nil_sublist t
  | a :: s, [], _, _, h => absurd (h a (by simp)) (by simp)
  | a :: s, b :: t, hs, ht, h => by
    have hs' := List.pairwise_cons.mp hs
    have ht' := List.pairwise_cons.mp ht
    by_cases e : a = b
    · subst e
      refine List.Sublist.cons_cons _ (inc_sublist hs'.2 ht'.2 fun c hc => ?_)
      have h1 := hs'.1 c hc
      rcases List.mem_cons.mp (h c (by simp [hc])) with e | e
      · omega
      · exact e
    · refine List.Sublist.cons _ (inc_sublist hs ht'.2 fun c hc => ?_)
      rcases List.mem_cons.mp (h c hc) with e2 | e2
      · subst e2
        rcases List.mem_cons.mp (h a (by simp)) with e3 | e3
        · exact absurd e3 e
        · have h1 := ht'.1 a e3
          rcases List.mem_cons.mp hc with e4 | e4
          · omega
          · have := hs'.1 c e4
            omega
      · exact e2
theorem inc_sub_len {s t : List Nat} (hs : s.Pairwise (· < ·)) (ht : t.Pairwise (· < ·)) (h : ∀ c ∈ s, c ∈ t) : s.length ≤ t.length := (inc_sublist hs ht h).length_le
theorem inc_sub_eq {s t : List Nat} (hs : s.Pairwise (· < ·)) (ht : t.Pairwise (· < ·)) (h : ∀ c ∈ s, c ∈ t) (hl : s.length = t.length) : s = t := (inc_sublist hs ht h).eq_of_length hl
/-! ### papers that are carried -/
def lfC (l cs : List Nat) : List Nat := (List.range l.length).map fun i => if i ∈ cs then 46 else l.getD i 0
def ltC (l o cs : List Nat) : List Nat := (List.range l.length).map fun i => if i ∈ cs ∧ l.getD i 0 ≠ 46 then l.getD i 0 else o.getD i 0
theorem lfC_len (l cs : List Nat) : (lfC l cs).length = l.length := by simp [lfC]
theorem ltC_len (l o cs : List Nat) : (ltC l o cs).length = l.length := by simp [ltC]
theorem lfC_at {l cs : List Nat} {i : Nat} (h : i < l.length) : (lfC l cs)[i]? = some (if i ∈ cs then 46 else l.getD i 0) := by
  unfold lfC
  rw [List.getElem?_map, List.getElem?_range h]
  rfl
theorem ltC_at {l o cs : List Nat} {i : Nat} (h : i < l.length) : (ltC l o cs)[i]? = some (if i ∈ cs ∧ l.getD i 0 ≠ 46 then l.getD i 0 else o.getD i 0) := by
  unfold ltC
  rw [List.getElem?_map, List.getElem?_range h]
  rfl
theorem lst_ext {l m : List Nat} (hl : l.length = m.length) (h : ∀ i, i < l.length → l[i]? = m[i]?) : l = m := by
  refine List.ext_getElem? fun i => ?_
  by_cases hi : i < l.length
  · exact h i hi
  · rw [List.getElem?_eq_none (by omega), List.getElem?_eq_none (by omega)]
theorem getD_of {l : List Nat} {i c : Nat} (h : l[i]? = some c) : l.getD i 0 = c := by
  rw [List.getD_eq_getElem?_getD, h]
  rfl
theorem lfC_nil (l : List Nat) : lfC l [] = l := lst_ext (lfC_len _ _) fun i hi => by
  rw [lfC_len] at hi
  rw [lfC_at hi]
  simp only [List.not_mem_nil, if_false]
  rw [List.getD_eq_getElem?_getD, List.getElem?_eq_getElem hi]
  rfl
theorem ltC_nil {l o : List Nat} (h : o.length = l.length) : ltC l o [] = o := lst_ext ((ltC_len _ _ _).trans h.symm) fun i hi => by
  rw [ltC_len] at hi
  rw [ltC_at hi]
  simp only [List.not_mem_nil, false_and, if_false]
  rw [List.getD_eq_getElem?_getD, List.getElem?_eq_getElem (by omega)]
  rfl
theorem lfC_set {l cs : List Nat} {c : Nat} (hc : c < l.length) : (lfC l cs).set c 46 = lfC l (cs ++ [c]) := lst_ext (by simp [lfC_len]) fun i hi => by
  rw [List.length_set, lfC_len] at hi
  rw [lfC_at hi]
  by_cases e : c = i
  · subst e
    rw [List.getElem?_set_self (by rw [lfC_len]; exact hc)]
    simp
  · rw [List.getElem?_set_ne e, lfC_at hi]
    have e' : i ≠ c := fun h => e h.symm
    simp [e']
theorem ltC_set {l o cs : List Nat} {c : Nat} (hc : c < l.length) : (ltC l o cs).set c (if (lfC l cs).getD c 0 ≠ 46 then (lfC l cs).getD c 0 else (ltC l o cs).getD c 0) = ltC l o (cs ++ [c]) := lst_ext (by simp [ltC_len]) fun i hi => by
  rw [List.length_set, ltC_len] at hi
  rw [ltC_at hi]
  by_cases e : c = i
  · subst e
    rw [List.getElem?_set_self (by rw [ltC_len]; exact hc), getD_of (lfC_at hc), getD_of (ltC_at hc)]
    by_cases h1 : c ∈ cs
    · simp [h1]
    · simp only [h1, if_false, List.mem_append, List.mem_singleton, or_true, true_and, false_and]
  · rw [List.getElem?_set_ne e, ltC_at hi]
    have e' : i ≠ c := fun h => e h.symm
    simp [e']
def diffs (o g : List Nat) : List Nat := (List.range g.length).filter fun i => decide (o.getD i 0 ≠ g.getD i 0)
def wrongs (l g d : List Nat) : List Nat := d.filter fun c => decide (g.getD c 0 = 46) || decide (l.getD c 0 ≠ g.getD c 0)
theorem diffs_mem {o g : List Nat} {c : Nat} : c ∈ diffs o g ↔ c < g.length ∧ o.getD c 0 ≠ g.getD c 0 := by simp [diffs]
theorem range_inc (n : Nat) : (List.range n).Pairwise (· < ·) := List.pairwise_lt_range
theorem diffs_inc (o g : List Nat) : (diffs o g).Pairwise (· < ·) := (range_inc _).filter _
theorem ltC_eq {l o cs g : List Nat} (hg : g.length = l.length) : ltC l o cs = g ↔ ∀ i, i < l.length → (if i ∈ cs ∧ l.getD i 0 ≠ 46 then l.getD i 0 else o.getD i 0) = g.getD i 0 := by
  constructor
  · intro h i hi
    have := ltC_at (o := o) (cs := cs) hi
    rw [h] at this
    exact (getD_of this).symm
  · intro h
    refine lst_ext ((ltC_len _ _ _).trans hg.symm) fun i hi => ?_
    rw [ltC_len] at hi
    rw [ltC_at hi, h i hi, List.getD_eq_getElem?_getD, List.getElem?_eq_getElem (by omega)]
    rfl
theorem need {l o cs g : List Nat} (hg : g.length = l.length) (h : ltC l o cs = g) {c : Nat} (hc : c ∈ diffs o g) : c ∈ cs ∧ l.getD c 0 ≠ 46 ∧ l.getD c 0 = g.getD c 0 := by
  obtain ⟨h1, h2⟩ := diffs_mem.mp hc
  have := (ltC_eq hg).mp h c (by omega)
  split at this
  · rename_i q
    exact ⟨q.1, q.2, this⟩
  · exact absurd this h2
theorem no_wrong {l o cs g : List Nat} (hg : g.length = l.length) (h : ltC l o cs = g) : wrongs l g (diffs o g) = [] := by
  unfold wrongs
  rw [List.filter_eq_nil_iff]
  intro c hc
  obtain ⟨_, h1, h2⟩ := need hg h hc
  rw [← h2]
  simpa using h1
theorem enough {l o g : List Nat} (hg : g.length = l.length) (h : wrongs l g (diffs o g) = []) : ltC l o (diffs o g) = g := by
  rw [ltC_eq hg]
  intro i hi
  unfold wrongs at h
  rw [List.filter_eq_nil_iff] at h
  by_cases hd : i ∈ diffs o g
  · have := h i hd
    simp only [Bool.or_eq_true, decide_eq_true_eq, not_or, Classical.not_not] at this
    rw [this.2, if_pos ⟨hd, this.1⟩]
  · rw [if_neg fun q => hd q.1]
    have : ¬ (i < g.length ∧ o.getD i 0 ≠ g.getD i 0) := fun q => hd (diffs_mem.mpr q)
    have hi' : i < g.length := by omega
    exact Classical.byContradiction fun q => this ⟨hi', q⟩
def wayTo (l o g : List Nat) : List (List Nat) := (subs l.length).filter fun s => decide (ltC l o s = g)
theorem wayTo_mem {l o g s : List Nat} : s ∈ wayTo l o g ↔ s ∈ subs l.length ∧ ltC l o s = g := by simp [wayTo]
theorem way_some {l o g : List Nat} (hg : g.length = l.length) (h : wrongs l g (diffs o g) = []) : diffs o g ∈ wayTo l o g :=
  wayTo_mem.mpr ⟨subs_all _ _ (diffs_inc o g) fun c hc => by have := (diffs_mem.mp hc).1; omega, enough hg h⟩
theorem way_best {l o g s : List Nat} (hg : g.length = l.length) (h : s ∈ wayTo l o g) : s = diffs o g ∨ (diffs o g).length < s.length := by
  obtain ⟨h1, h2⟩ := wayTo_mem.mp h
  have hs := (subs_ok _ s h1).1
  have sub : ∀ c ∈ diffs o g, c ∈ s := fun c hc => (need hg h2 hc).1
  have := inc_sub_len (diffs_inc o g) hs sub
  by_cases e : (diffs o g).length = s.length
  · exact .inl (inc_sub_eq (diffs_inc o g) hs sub e).symm
  · exact .inr (by omega)
theorem way_none {l o g : List Nat} (hg : g.length = l.length) (h : wrongs l g (diffs o g) ≠ []) : wayTo l o g = [] := by
  rw [List.eq_nil_iff_forall_not_mem]
  intro s hs
  exact h (no_wrong hg (wayTo_mem.mp hs).2)
end RP

/-! P50: on how many cells a paper becomes a text; the first of them. -/
namespace RP
open PySem L2
def spell (l s : List Nat) : List Nat := s.map fun c => l.getD c 0
theorem spell_len (l s : List Nat) : (spell l s).length = s.length := by simp [spell]
theorem spell_app (l s : List Nat) (c : Nat) : spell l (s ++ [c]) = spell l s ++ [l.getD c 0] := by simp [spell]
def waysN (l t : List Nat) (n p : Nat) : Nat := ((subs n).filter fun s => decide (spell l s = t.take p)).length
theorem waysN_0 {l t : List Nat} {p : Nat} (hp : p ≤ t.length) : waysN l t 0 p = if p = 0 then 1 else 0 := by
  unfold waysN
  by_cases h : p = 0
  · subst h
    rw [if_pos rfl]
    rfl
  · rw [if_neg h]
    have : decide (spell l [] = t.take p) = false := decide_eq_false fun e => by
      have := congrArg List.length e
      rw [spell_len, List.length_take] at this
      simp at this
      omega
    rw [subs, List.filter_cons_of_neg (by rw [this]; decide)]
    rfl
theorem filter_none {α : Type} {p : α → Bool} {l : List α} (h : ∀ a ∈ l, p a = false) : (l.filter p).length = 0 := by
  rw [List.filter_eq_nil_iff.mpr fun a ha => by rw [h a ha]; decide]
  rfl
theorem filter_map_len {α β : Type} (f : α → β) (p : β → Bool) (q : α → Bool) (l : List α) (h : ∀ a ∈ l, p (f a) = q a) : ((l.map f).filter p).length = (l.filter q).length := by
  rw [List.filter_map, List.length_map]
  congr 1
  exact List.filter_congr fun a ha => h a ha
theorem waysN_s0 {l t : List Nat} {n : Nat} : waysN l t (n + 1) 0 = waysN l t n 0 := by
  unfold waysN
  rw [subs, List.filter_append, List.length_append, filter_none (l := (subs n).map fun s => s ++ [n]), Nat.add_zero]
  intro a ha
  obtain ⟨s, _, rfl⟩ := List.mem_map.mp ha
  refine decide_eq_false fun e => ?_
  have := congrArg List.length e
  rw [spell_len] at this
  simp at this
theorem waysN_ss {l t : List Nat} {n p : Nat} (hp : p < t.length) : waysN l t (n + 1) (p + 1) = waysN l t n (p + 1) + if t.getD p 0 = l.getD n 0 then waysN l t n p else 0 := by
  unfold waysN
  rw [subs, List.filter_append, List.length_append]
  congr 1
  have tk : t.take (p + 1) = t.take p ++ [t.getD p 0] := by
    rw [List.take_add_one, List.getElem?_eq_getElem hp, List.getD_eq_getElem?_getD, List.getElem?_eq_getElem hp]
    rfl
  by_cases h : t.getD p 0 = l.getD n 0
  · rw [if_pos h]
    refine filter_map_len _ _ _ _ fun s _ => ?_
    rw [spell_app, tk, h]
    by_cases e : spell l s = t.take p
    · rw [e]; simp
    · rw [decide_eq_false e, decide_eq_false]
      intro e2
      exact e (List.append_inj' e2 rfl).1
  · rw [if_neg h, filter_none]
    intro a ha
    obtain ⟨s, _, rfl⟩ := List.mem_map.mp ha
    refine decide_eq_false fun e => ?_
    rw [spell_app, tk] at e
    have := (List.append_inj' e rfl).2
    simp only [List.cons.injEq, and_true] at this
    exact h this.symm
theorem subs_nodup : ∀ n, (subs n).Nodup
  | 0 => by simp [subs]
  | n + 1 => by
    rw [subs, List.nodup_append]
    refine ⟨subs_nodup n, ?_, ?_⟩
    · rw [List.nodup_iff_pairwise_ne, List.pairwise_map]
      exact (subs_nodup n).imp fun h e => h (List.append_cancel_right e)
    · intro s hs t ht e
      obtain ⟨u, hu, rfl⟩ := List.mem_map.mp ht
      have := (subs_ok n s hs).2.1 n (by rw [e]; simp)
      omega
def spelled (l t : List Nat) : List (List Nat) := (subs l.length).filter fun s => decide (spell l s = t)
theorem spelled_mem {l t s : List Nat} : s ∈ spelled l t ↔ s ∈ subs l.length ∧ spell l s = t := by simp [spelled]
theorem waysN_all {l t : List Nat} : waysN l t l.length t.length = (spelled l t).length := by
  unfold waysN spelled
  rw [List.take_length]
theorem inc_full {s : List Nat} {n : Nat} (hs : s.Pairwise (· < ·)) (h : ∀ c ∈ s, c < n) (hl : s.length = n) : s = List.range n :=
  inc_sub_eq hs (range_inc n) (fun c hc => List.mem_range.mpr (h c hc)) (by rw [List.length_range]; exact hl)
theorem spell_range (l : List Nat) : spell l (List.range l.length) = l := by
  unfold spell
  refine lst_ext (by simp) fun i hi => ?_
  rw [List.length_map, List.length_range] at hi
  rw [List.getElem?_map, List.getElem?_range hi, List.getElem?_eq_getElem hi]
  simp [List.getElem?_eq_getElem hi]
theorem spelled_self (l : List Nat) : spelled l l = [List.range l.length] := by
  have hm : List.range l.length ∈ spelled l l := spelled_mem.mpr ⟨subs_all _ _ (range_inc _) fun c hc => List.mem_range.mp hc, spell_range l⟩
  have all : ∀ s ∈ spelled l l, s = List.range l.length := fun s hs => by
    obtain ⟨h1, h2⟩ := spelled_mem.mp hs
    obtain ⟨a, b, c⟩ := subs_ok _ s h1
    refine inc_full a b ?_
    have := congrArg List.length h2
    rwa [spell_len] at this
  have nd : (spelled l l).Nodup := (subs_nodup _).filter _
  cases q : spelled l l with
  | nil => rw [q] at hm; cases hm
  | cons a r =>
    rw [q] at all nd
    have ea := all a (by simp)
    cases r with
    | nil => rw [ea]
    | cons b r =>
      have eb := all b (by simp)
      rw [ea, eb] at nd
      simp at nd
theorem spelled_more (l : List Nat) (c : Nat) : spelled l (l ++ [c]) = [] := by
  rw [List.eq_nil_iff_forall_not_mem]
  intro s hs
  obtain ⟨h1, h2⟩ := spelled_mem.mp hs
  have := (subs_ok _ s h1).2.2
  have h3 := congrArg List.length h2
  rw [spell_len] at h3
  simp at h3
  omega
/-! ### the first -/
def gr (l t : List Nat) : Nat → List Nat
  | 0 => []
  | n + 1 => if (gr l t n).length < t.length ∧ t.getD (gr l t n).length 0 = l.getD n 0 then gr l t n ++ [n] else gr l t n
theorem take_snoc {t : List Nat} {p : Nat} (hp : p < t.length) : t.take (p + 1) = t.take p ++ [t.getD p 0] := by
  rw [List.take_add_one, List.getElem?_eq_getElem hp, List.getD_eq_getElem?_getD, List.getElem?_eq_getElem hp]
  rfl
theorem gr_ok (l t : List Nat) : ∀ n, (gr l t n).Pairwise (· < ·) ∧ (∀ c ∈ gr l t n, c < n) ∧ (gr l t n).length ≤ t.length ∧ (gr l t n).length ≤ n ∧ spell l (gr l t n) = t.take (gr l t n).length
  | 0 => ⟨by simp [gr], by simp [gr], by simp [gr], by simp [gr], by simp [gr, spell]⟩
  | n + 1 => by
    obtain ⟨a, b, c, d, e⟩ := gr_ok l t n
    rw [gr]
    split
    · rename_i h
      refine ⟨?_, ?_, by simp; omega, by simp; omega, ?_⟩
      · rw [List.pairwise_append]
        exact ⟨a, by simp, fun x hx y hy => by rw [List.mem_singleton.mp hy]; exact b x hx⟩
      · intro c hc
        rcases List.mem_append.mp hc with h | h
        · exact Nat.lt_succ_of_lt (b c h)
        · rw [List.mem_singleton.mp h]; omega
      · rw [spell_app, e, ← h.2, List.length_append, List.length_singleton, take_snoc h.1]
    · exact ⟨a, fun c hc => Nat.lt_succ_of_lt (b c hc), c, by omega, e⟩
theorem gr_best {l t : List Nat} : ∀ (n : Nat) (s : List Nat), s.Pairwise (· < ·) → (∀ c ∈ s, c < n) → s.length ≤ t.length → spell l s = t.take s.length → s.length ≤ (gr l t n).length ∧ ∀ j, j < s.length → (gr l t n).getD j 0 ≤ s.getD j 0
  | 0, s, _, h, _, _ => by
    cases s with
    | nil => simp
    | cons c s => exact absurd (h c (by simp)) (by omega)
  | n + 1, s, hp, h, hl, he => by
    have old : ∀ s' : List Nat, s'.Pairwise (· < ·) → (∀ c ∈ s', c < n) → s'.length ≤ t.length → spell l s' = t.take s'.length → s'.length ≤ (gr l t (n + 1)).length ∧ ∀ j, j < s'.length → (gr l t (n + 1)).getD j 0 ≤ s'.getD j 0 := fun s' a b c d => by
      obtain ⟨i1, i2⟩ := gr_best n s' a b c d
      rw [gr]
      split
      · refine ⟨by simp; omega, fun j hj => ?_⟩
        have := i2 j hj
        rw [List.getD_eq_getElem?_getD, List.getElem?_append_left (by omega), ← List.getD_eq_getElem?_getD]
        exact this
      · exact ⟨i1, i2⟩
    by_cases hn : n ∈ s
    · rcases List.eq_nil_or_concat s with rfl | ⟨s', x, rfl⟩
      · cases hn
      · rw [List.concat_eq_append] at *
        have hp' := List.pairwise_append.mp hp
        have hx : x = n := by
          rcases List.mem_append.mp hn with h1 | h1
          · have := hp'.2.2 n h1 x (by simp)
            have := h x (by simp)
            omega
          · exact (List.mem_singleton.mp h1).symm
        subst hx
        have hb : ∀ c ∈ s', c < x := fun c hc => hp'.2.2 c hc x (by simp)
        have hl1 : s'.length < t.length := by
          simp at hl
          omega
        rw [List.length_append, List.length_singleton] at hl he ⊢
        rw [spell_app, take_snoc hl1] at he
        have hi := List.append_inj' he rfl
        have hlast : l.getD x 0 = t.getD s'.length 0 := by
          have := hi.2
          simpa using this
        obtain ⟨i1, i2⟩ := gr_best x s' hp'.1 hb (by omega) hi.1
        obtain ⟨g1, g2, g3, g4, g5⟩ := gr_ok l t x
        by_cases hs : s'.length < (gr l t x).length
        · have : gr l t (x + 1) = gr l t x ∨ gr l t (x + 1) = gr l t x ++ [x] := by
            rw [gr]
            split
            · exact .inr rfl
            · exact .inl rfl
          have key : ∀ j, j < s'.length + 1 → (gr l t x).getD j 0 ≤ (s' ++ [x]).getD j 0 := fun j hj => by
            by_cases hj' : j < s'.length
            · rw [List.getD_eq_getElem?_getD (l := s' ++ [x]), List.getElem?_append_left hj', ← List.getD_eq_getElem?_getD]
              exact i2 j hj'
            · have ej : j = s'.length := by omega
              subst ej
              have h1 : (gr l t x).getD s'.length 0 < x := by
                rw [List.getD_eq_getElem?_getD, List.getElem?_eq_getElem hs]
                exact g2 _ (List.getElem_mem hs)
              have h2 : (s' ++ [x]).getD s'.length 0 = x := by simp
              omega
          rcases this with e | e
          · rw [e]
            exact ⟨by omega, key⟩
          · rw [e]
            refine ⟨by simp; omega, fun j hj => ?_⟩
            rw [List.getD_eq_getElem?_getD, List.getElem?_append_left (by omega), ← List.getD_eq_getElem?_getD]
            exact key j hj
        · have el : s'.length = (gr l t x).length := by omega
          rw [gr, if_pos ⟨by omega, by rw [← el]; exact hlast.symm⟩]
          refine ⟨by simp; omega, fun j hj => ?_⟩
          by_cases hj' : j < s'.length
          · rw [List.getD_eq_getElem?_getD, List.getElem?_append_left (by omega), List.getD_eq_getElem?_getD (l := s' ++ [x]), List.getElem?_append_left hj', ← List.getD_eq_getElem?_getD, ← List.getD_eq_getElem?_getD]
            exact i2 j hj'
          · have ej : j = s'.length := by omega
            subst ej
            have h2 : (s' ++ [x]).getD s'.length 0 = x := by simp
            rw [h2, el]
            simp
    · refine old s hp (fun c hc => ?_) hl he
      have := h c hc
      have : c ≠ n := fun e => hn (e ▸ hc)
      omega
theorem first_some {l t s : List Nat} (h : s ∈ spelled l t) : (gr l t l.length).length = t.length ∧ spell l (gr l t l.length) = t ∧ gr l t l.length ∈ spelled l t ∧ ∀ j, j < t.length → (gr l t l.length).getD j 0 ≤ s.getD j 0 := by
  obtain ⟨h1, h2⟩ := spelled_mem.mp h
  obtain ⟨a, b, c⟩ := subs_ok _ s h1
  have hsl : s.length = t.length := by
    have := congrArg List.length h2
    rwa [spell_len] at this
  obtain ⟨i1, i2⟩ := gr_best (l := l) (t := t) l.length s a b (by omega) (by rw [h2, hsl, List.take_length])
  obtain ⟨g1, g2, g3, g4, g5⟩ := gr_ok l t l.length
  have el : (gr l t l.length).length = t.length := by omega
  rw [el, List.take_length] at g5
  exact ⟨el, g5, spelled_mem.mpr ⟨subs_all _ _ g1 g2, g5⟩, fun j hj => i2 j (by omega)⟩
theorem first_none {l t : List Nat} (h : (gr l t l.length).length = t.length) : gr l t l.length ∈ spelled l t := by
  obtain ⟨g1, g2, g3, g4, g5⟩ := gr_ok l t l.length
  rw [h, List.take_length] at g5
  exact spelled_mem.mpr ⟨subs_all _ _ g1 g2, g5⟩
theorem lexN_le : ∀ {a b : List Nat}, a.length = b.length → (∀ j, j < a.length → a.getD j 0 ≤ b.getD j 0) → b = a ∨ (lexN a b = true ∧ lexN b a = false)
  | [], [], _, _ => .inl rfl
  | [], _ :: _, h, _ => by simp at h
  | _ :: _, [], h, _ => by simp at h
  | x :: a, y :: b, h, hj => by
    have h0 : x ≤ y := by
      have := hj 0 (by simp)
      simpa using this
    by_cases e : x = y
    · subst e
      rcases lexN_le (a := a) (b := b) (by simpa using h) (fun j hj' => by
        have := hj (j + 1) (by simpa using hj')
        simpa using this) with e | ⟨e1, e2⟩
      · left; rw [e]
      · right
        simp [lexN, e1, e2]
    · right
      have : x < y := by omega
      have h3 : ¬ y < x := by omega
      have h4 : ¬ y = x := fun z => e z.symm
      simp [lexN, this, h3, h4]
end RP

namespace Lw
open PySem L2 RP

/-! ### the text by places -/
def top (i : Nat) : Stmt := PySem.Challenge.pw_rakedpapers_k32_texts_of_papers.main.body.getD i (.Pass ⟨0, 0, 0, 0⟩)
structure Ad where
  f_is_number : Addr
  f_is_letter : Addr
  f_are_signs : Addr
  f_is_size : Addr
  f_BathD_initD : Addr
  f_Bath_width : Addr
  f_Bath_height : Addr
  f_Bath_cells : Addr
  f_BathD_lenD : Addr
  f_BathD_eqD : Addr
  f_are_strides : Addr
  f_are_cells : Addr
  f_is_draw : Addr
  f_is_deed : Addr
  f_check_recipe : Addr
  f_drawn : Addr
  f_pushed : Addr
  f_TrayD_initD : Addr
  f_Tray_do : Addr
  f_all_steps : Addr
  f_check_places : Addr
  f_check_text : Addr
  f_check_some : Addr
  f_paper_count : Addr
  f_first_paper : Addr
  f_moments : Addr
  f__law_taken : Addr
  f__law_bath : Addr
  f__law_strides : Addr
  f__law_some : Addr
  f__law_deed : Addr
  f__law_behind : Addr
  f__law_rows : Addr
  f__law_small : Addr
  f__law_subsets : Addr
  f_law : Addr
  c_BathError : Addr
  c_InvalidBath : Addr
  c_InvalidRecipe : Addr
  c_InvalidCells : Addr
  c_InvalidText : Addr
  c_Bath : Addr
  c_Tray : Addr
def tab (A : Ad) : Tab := ⟨fun n => match n with
  | 0 => A.c_BathError
  | 1 => A.c_InvalidBath
  | 2 => A.c_InvalidRecipe
  | 3 => A.c_InvalidCells
  | 4 => A.c_InvalidText
  | 5 => A.c_Bath
  | 6 => A.c_Tray
  | _ => 0, fun n => match n with
  | 0 => []
  | 1 => ["part"]
  | 2 => ["index"]
  | 3 => []
  | 4 => []
  | 5 => ["parts"]
  | 6 => ["size", "things", "papers"]
  | _ => []⟩
abbrev s_is_number : Stmt := top 17
abbrev s_is_letter : Stmt := top 18
abbrev s_are_signs : Stmt := top 19
abbrev s_is_size : Stmt := top 20
abbrev s_BathD_initD : Stmt := inClass (top 21) 1
abbrev s_Bath_width : Stmt := inClass (top 21) 2
abbrev s_Bath_height : Stmt := inClass (top 21) 3
abbrev s_Bath_cells : Stmt := inClass (top 21) 4
abbrev s_BathD_lenD : Stmt := inClass (top 21) 5
abbrev s_BathD_eqD : Stmt := inClass (top 21) 6
abbrev s_are_strides : Stmt := top 22
abbrev s_are_cells : Stmt := top 23
abbrev s_is_draw : Stmt := top 24
abbrev s_is_deed : Stmt := top 25
abbrev s_check_recipe : Stmt := top 26
abbrev s_drawn : Stmt := top 27
abbrev s_pushed : Stmt := top 28
abbrev s_TrayD_initD : Stmt := inClass (top 29) 0
abbrev s_Tray_do : Stmt := inClass (top 29) 1
abbrev s_all_steps : Stmt := top 30
abbrev s_check_places : Stmt := top 32
abbrev s_check_text : Stmt := top 33
abbrev s_check_some : Stmt := top 34
abbrev s_paper_count : Stmt := top 35
abbrev s_first_paper : Stmt := top 36
abbrev s_moments : Stmt := top 37
abbrev s__law_taken : Stmt := top 39
abbrev s__law_bath : Stmt := top 40
abbrev s__law_strides : Stmt := top 41
abbrev s__law_some : Stmt := top 42
abbrev s__law_deed : Stmt := top 43
abbrev s__law_behind : Stmt := top 44
abbrev s__law_rows : Stmt := top 45
abbrev s__law_small : Stmt := top 46
abbrev s__law_subsets : Stmt := top 47
abbrev s_law : Stmt := top 48
/-- what the top has left -/
structure Glb (m : Mo) (A : Ad) : Prop where
  F_is_number : ∃ fd, Fun m.K "is_number" "is_number" s_is_number A.f_is_number fd ∧ Binds m.K fd ["value", "smallest", "largest"] []
  g_is_number : m.mg "is_number" = some (.ref A.f_is_number)
  F_is_letter : ∃ fd, Fun m.K "is_letter" "is_letter" s_is_letter A.f_is_letter fd ∧ Binds m.K fd ["value"] []
  g_is_letter : m.mg "is_letter" = some (.ref A.f_is_letter)
  F_are_signs : ∃ fd, Fun m.K "are_signs" "are_signs" s_are_signs A.f_are_signs fd ∧ Binds m.K fd ["size", "value"] []
  g_are_signs : m.mg "are_signs" = some (.ref A.f_are_signs)
  F_is_size : ∃ fd, Fun m.K "is_size" "is_size" s_is_size A.f_is_size fd ∧ Binds m.K fd ["width", "height"] []
  g_is_size : m.mg "is_size" = some (.ref A.f_is_size)
  F_BathD_initD : ∃ fd, Fun m.K "__init__" "Bath.__init__" s_BathD_initD A.f_BathD_initD fd ∧ Binds m.K fd ["self", "width", "height", "cells"] []
  F_Bath_width : ∃ fd, Fun m.K "width" "Bath.width" s_Bath_width A.f_Bath_width fd ∧ Binds m.K fd ["self"] []
  F_Bath_height : ∃ fd, Fun m.K "height" "Bath.height" s_Bath_height A.f_Bath_height fd ∧ Binds m.K fd ["self"] []
  F_Bath_cells : ∃ fd, Fun m.K "cells" "Bath.cells" s_Bath_cells A.f_Bath_cells fd ∧ Binds m.K fd ["self"] []
  F_BathD_lenD : ∃ fd, Fun m.K "__len__" "Bath.__len__" s_BathD_lenD A.f_BathD_lenD fd ∧ Binds m.K fd ["self"] []
  F_BathD_eqD : ∃ fd, Fun m.K "__eq__" "Bath.__eq__" s_BathD_eqD A.f_BathD_eqD fd ∧ Binds m.K fd ["self", "other"] []
  F_are_strides : ∃ fd, Fun m.K "are_strides" "are_strides" s_are_strides A.f_are_strides fd ∧ Binds m.K fd ["value", "count"] []
  g_are_strides : m.mg "are_strides" = some (.ref A.f_are_strides)
  F_are_cells : ∃ fd, Fun m.K "are_cells" "are_cells" s_are_cells A.f_are_cells fd ∧ Binds m.K fd ["size", "value"] []
  g_are_cells : m.mg "are_cells" = some (.ref A.f_are_cells)
  F_is_draw : ∃ fd, Fun m.K "is_draw" "is_draw" s_is_draw A.f_is_draw fd ∧ Binds m.K fd ["width", "height", "value"] []
  g_is_draw : m.mg "is_draw" = some (.ref A.f_is_draw)
  F_is_deed : ∃ fd, Fun m.K "is_deed" "is_deed" s_is_deed A.f_is_deed fd ∧ Binds m.K fd ["width", "height", "value"] []
  g_is_deed : m.mg "is_deed" = some (.ref A.f_is_deed)
  F_check_recipe : ∃ fd, Fun m.K "check_recipe" "check_recipe" s_check_recipe A.f_check_recipe fd ∧ Binds m.K fd ["width", "height", "recipe"] []
  g_check_recipe : m.mg "check_recipe" = some (.ref A.f_check_recipe)
  F_drawn : ∃ fd, Fun m.K "drawn" "drawn" s_drawn A.f_drawn fd ∧ Binds m.K fd ["width", "height", "deed"] []
  g_drawn : m.mg "drawn" = some (.ref A.f_drawn)
  F_pushed : ∃ fd, Fun m.K "pushed" "pushed" s_pushed A.f_pushed fd ∧ Binds m.K fd ["width", "height", "cell"] []
  g_pushed : m.mg "pushed" = some (.ref A.f_pushed)
  F_TrayD_initD : ∃ fd, Fun m.K "__init__" "Tray.__init__" s_TrayD_initD A.f_TrayD_initD fd ∧ Binds m.K fd ["self", "width", "height", "things"] []
  F_Tray_do : ∃ fd, Fun m.K "do" "Tray.do" s_Tray_do A.f_Tray_do fd ∧ Binds m.K fd ["self", "deed", "fresh"] []
  F_all_steps : ∃ fd, Fun m.K "all_steps" "all_steps" s_all_steps A.f_all_steps fd ∧ Binds m.K fd ["width", "height", "cells", "recipe"] []
  g_all_steps : m.mg "all_steps" = some (.ref A.f_all_steps)
  F_check_places : ∃ fd, Fun m.K "check_places" "check_places" s_check_places A.f_check_places fd ∧ Binds m.K fd ["bath", "cells"] []
  g_check_places : m.mg "check_places" = some (.ref A.f_check_places)
  F_check_text : ∃ fd, Fun m.K "check_text" "check_text" s_check_text A.f_check_text fd ∧ Binds m.K fd ["count", "text"] []
  g_check_text : m.mg "check_text" = some (.ref A.f_check_text)
  F_check_some : ∃ fd, Fun m.K "check_some" "check_some" s_check_some A.f_check_some fd ∧ Binds m.K fd ["text"] []
  g_check_some : m.mg "check_some" = some (.ref A.f_check_some)
  F_paper_count : ∃ fd, Fun m.K "paper_count" "paper_count" s_paper_count A.f_paper_count fd ∧ Binds m.K fd ["bath", "text"] []
  g_paper_count : m.mg "paper_count" = some (.ref A.f_paper_count)
  F_first_paper : ∃ fd, Fun m.K "first_paper" "first_paper" s_first_paper A.f_first_paper fd ∧ Binds m.K fd ["bath", "text"] []
  g_first_paper : m.mg "first_paper" = some (.ref A.f_first_paper)
  F_moments : ∃ fd, Fun m.K "moments" "moments" s_moments A.f_moments fd ∧ Binds m.K fd ["bath", "recipe", "cells", "text"] []
  g_moments : m.mg "moments" = some (.ref A.f_moments)
  F__law_taken : ∃ fd, Fun m.K "_law_taken" "_law_taken" s__law_taken A.f__law_taken fd ∧ Binds m.K fd ["_law_row", "_law_many"] []
  g__law_taken : m.mg "_law_taken" = some (.ref A.f__law_taken)
  F__law_bath : ∃ fd, Fun m.K "_law_bath" "_law_bath" s__law_bath A.f__law_bath fd ∧ Binds m.K fd ["_law_row", "_law_most"] []
  g__law_bath : m.mg "_law_bath" = some (.ref A.f__law_bath)
  F__law_strides : ∃ fd, Fun m.K "_law_strides" "_law_strides" s__law_strides A.f__law_strides fd ∧ Binds m.K fd ["_law_row", "_law_count"] []
  g__law_strides : m.mg "_law_strides" = some (.ref A.f__law_strides)
  F__law_some : ∃ fd, Fun m.K "_law_some" "_law_some" s__law_some A.f__law_some fd ∧ Binds m.K fd ["_law_row", "_law_size"] []
  g__law_some : m.mg "_law_some" = some (.ref A.f__law_some)
  F__law_deed : ∃ fd, Fun m.K "_law_deed" "_law_deed" s__law_deed A.f__law_deed fd ∧ Binds m.K fd ["_law_row", "_law_bath_here"] []
  g__law_deed : m.mg "_law_deed" = some (.ref A.f__law_deed)
  F__law_behind : ∃ fd, Fun m.K "_law_behind" "_law_behind" s__law_behind A.f__law_behind fd ∧ Binds m.K fd ["_law_bath_here", "_law_things", "_law_deed_here", "_law_fresh"] []
  g__law_behind : m.mg "_law_behind" = some (.ref A.f__law_behind)
  F__law_rows : ∃ fd, Fun m.K "_law_rows" "_law_rows" s__law_rows A.f__law_rows fd ∧ Binds m.K fd ["_law_bath_here", "_law_recipe"] []
  g__law_rows : m.mg "_law_rows" = some (.ref A.f__law_rows)
  F__law_small : ∃ fd, Fun m.K "_law_small" "_law_small" s__law_small A.f__law_small fd ∧ Binds m.K fd ["_law_row"] []
  g__law_small : m.mg "_law_small" = some (.ref A.f__law_small)
  F__law_subsets : ∃ fd, Fun m.K "_law_subsets" "_law_subsets" s__law_subsets A.f__law_subsets fd ∧ Binds m.K fd ["_law_size"] []
  g__law_subsets : m.mg "_law_subsets" = some (.ref A.f__law_subsets)
  F_law : ∃ fd, Fun m.K "law" "law" s_law A.f_law fd ∧ Binds m.K fd ["_law_script"] []
  g_law : m.mg "law" = some (.ref A.f_law)
  n_all : m.mg "all" = none
  n_bool : m.mg "bool" = none
  n_enumerate : m.mg "enumerate" = none
  n_int : m.mg "int" = none
  n_isinstance : m.mg "isinstance" = none
  n_len : m.mg "len" = none
  n_list : m.mg "list" = none
  n_min : m.mg "min" = none
  n_range : m.mg "range" = none
  n_str : m.mg "str" = none
  n_tuple : m.mg "tuple" = none
  n_zip : m.mg "zip" = none
  c_COMB : ∃ tk, m.mg "COMB" = some (.str "comb" tk)
  c_DROP : ∃ tk, m.mg "DROP" = some (.str "drop" tk)
  c_LETTERS : ∃ tk, m.mg "LETTERS" = some (.str "abcdefghijklmnopqrstuvwxyz" tk)
  c_MAX_CELLS : ∃ tk, m.mg "MAX_CELLS" = some (.int 12 tk)
  c_MAX_DEEDS : ∃ tk, m.mg "MAX_DEEDS" = some (.int 12 tk)
  c_MAX_SIDE : ∃ tk, m.mg "MAX_SIDE" = some (.int 5 tk)
  c_MAX_STRIDE : ∃ tk, m.mg "MAX_STRIDE" = some (.int 9 tk)
  c_NOTHING : ∃ tk, m.mg "NOTHING" = some (.str "." tk)
  c_PAPER : ∃ tk, m.mg "PAPER" = some (.str "paper" tk)
  c_RAKE : ∃ tk, m.mg "RAKE" = some (.str "rake" tk)
  mk_Bath : Mk m.K A.c_Bath A.f_BathD_initD
  g_Bath : m.mg "Bath" = some (.ref A.c_Bath)
  len_Bath : LenS m (tab A) 5 A.f_BathD_lenD
  isi_Bath : IsiS m (tab A) 5
  p_Bath_width : PropS m (tab A) 5 "width" A.f_Bath_width
  p_Bath_height : PropS m (tab A) 5 "height" A.f_Bath_height
  p_Bath_cells : PropS m (tab A) 5 "cells" A.f_Bath_cells
  f_Bath_parts : SltOk m (tab A) 5 0 "parts"
  mk_Tray : Mk m.K A.c_Tray A.f_TrayD_initD
  g_Tray : m.mg "Tray" = some (.ref A.c_Tray)
  cl_Tray : Cls m.K A.c_Tray
  m_Tray_do : Meth m.K A.c_Tray "do" A.f_Tray_do
  f_Tray_size : FldOk m (tab A) 6 0 "size"
  f_Tray_things : FldOk m (tab A) 6 1 "things"
  f_Tray_papers : FldOk m (tab A) 6 2 "papers"
/-! ### the defs -/
set_option maxHeartbeats 4000000 in
noncomputable def r_is_number : { fb : Slots → M Fl // ∀ {m : Mo} {A : Ad} (_ : Glb m A), SSs m (tab A) 0 true true (defScope s_is_number) ["value", "smallest", "largest"] ["value", "smallest", "largest"] (defBody s_is_number) fb } := ⟨_, fun {m A} G =>
  (ss_one (s_ret (e_and (e_blt n_isi G.n_isinstance (a_cons (e_var 0) (a_cons (e_ty (id := "int") G.n_int (by decide +kernel)) a_nil)) (by decide +kernel)) (e_and (e_not (e_blt n_isi G.n_isinstance (a_cons (e_var 0) (a_cons (e_ty (id := "bool") G.n_bool (by decide +kernel)) a_nil)) (by decide +kernel))) (e_one (e_chain h_le h_le (e_var 1) (e_var 0) (e_var 2)))))))⟩
noncomputable def g_is_number : List W → M W := bodyM 3 3 r_is_number.1
theorem kr_is_number {m : Mo} {A : Ad} (G : Glb m A) : FnM m (tab A) 1 A.f_is_number 3 g_is_number := by
  obtain ⟨fd, F, b⟩ := G.F_is_number
  exact fn_mk F ⟨rfl, rfl, rfl, by decide +kernel, rfl, by decide +kernel, by decide +kernel⟩ b (r_is_number.2 G)
theorem k_is_number {m : Mo} {A : Ad} (G : Glb m A) : FnM m (tab A) 1 A.f_is_number 3 g_is_number := kr_is_number G
set_option maxHeartbeats 4000000 in
noncomputable def r_is_letter : { fb : Slots → M Fl // ∀ {m : Mo} {A : Ad} (_ : Glb m A), SSs m (tab A) 0 true true (defScope s_is_letter) ["value"] ["value"] (defBody s_is_letter) fb } := ⟨_, fun {m A} G =>
  (ss_one (s_ret (e_and (e_blt n_isi G.n_isinstance (a_cons (e_var 0) (a_cons (e_ty (id := "str") G.n_str (by decide +kernel)) a_nil)) (by decide +kernel)) (e_and (e_cmp c_eq (e_blt n_len G.n_len (a_cons (e_var 0) a_nil) PySem.boot_len) e_int) (e_one (e_cmp c_in (e_var 0) (e_gstr G.c_LETTERS)))))))⟩
noncomputable def g_is_letter : List W → M W := bodyM 1 1 r_is_letter.1
theorem kr_is_letter {m : Mo} {A : Ad} (G : Glb m A) : FnM m (tab A) 1 A.f_is_letter 1 g_is_letter := by
  obtain ⟨fd, F, b⟩ := G.F_is_letter
  exact fn_mk F ⟨rfl, rfl, rfl, by decide +kernel, rfl, by decide +kernel, by decide +kernel⟩ b (r_is_letter.2 G)
theorem k_is_letter {m : Mo} {A : Ad} (G : Glb m A) : FnM m (tab A) 1 A.f_is_letter 1 g_is_letter := kr_is_letter G
set_option maxHeartbeats 4000000 in
noncomputable def r_are_signs : { fb : Slots → M Fl // ∀ {m : Mo} {A : Ad} (_ : Glb m A), SSs m (tab A) 0 true true (defScope s_are_signs) ["size", "value", "sign"] ["size", "value", "sign"] (defBody s_are_signs) fb } := ⟨_, fun {m A} G =>
  (ss_one (s_ret (e_and (e_blt n_isi G.n_isinstance (a_cons (e_var 1) (a_cons (e_ty (id := "str") G.n_str (by decide +kernel)) a_nil)) (by decide +kernel)) (e_and (e_cmp c_eq (e_blt n_len G.n_len (a_cons (e_var 1) a_nil) PySem.boot_len) (e_var 0)) (e_one (e_blt (n_all rfl) G.n_all (a_cons (e_lc [("sign", 2)] rfl (it_val (e_var 1)) (by decide +kernel) (tg_one 2) ts_nil (e_cmp c_in (e_var 2) (e_bin o_add (e_gstr G.c_LETTERS) (e_gstr G.c_NOTHING)))) a_nil) (by decide +kernel)))))))⟩
noncomputable def g_are_signs : List W → M W := bodyM 3 2 r_are_signs.1
theorem kr_are_signs {m : Mo} {A : Ad} (G : Glb m A) : FnM m (tab A) 1 A.f_are_signs 2 g_are_signs := by
  obtain ⟨fd, F, b⟩ := G.F_are_signs
  exact fn_mk F ⟨rfl, rfl, rfl, by decide +kernel, rfl, by decide +kernel, by decide +kernel⟩ b (r_are_signs.2 G)
theorem k_are_signs {m : Mo} {A : Ad} (G : Glb m A) : FnM m (tab A) 1 A.f_are_signs 2 g_are_signs := kr_are_signs G
set_option maxHeartbeats 4000000 in
noncomputable def r_is_size : { fb : Slots → M Fl // ∀ {m : Mo} {A : Ad} (_ : Glb m A), SSs m (tab A) 1 true true (defScope s_is_size) ["width", "height"] ["width", "height"] (defBody s_is_size) fb } := ⟨_, fun {m A} G =>
  (ss_one (s_ret (e_and (e_call rfl ((k_is_number G).mono (by decide)) G.g_is_number (a_cons (e_var 0) (a_cons e_int (a_cons (e_gint G.c_MAX_SIDE) a_nil)))) (e_and (e_call rfl ((k_is_number G).mono (by decide)) G.g_is_number (a_cons (e_var 1) (a_cons e_int (a_cons (e_gint G.c_MAX_SIDE) a_nil)))) (e_one (e_cmp c_le (e_bin o_mul (e_var 0) (e_var 1)) (e_gint G.c_MAX_CELLS)))))))⟩
noncomputable def g_is_size : List W → M W := bodyM 2 2 r_is_size.1
theorem kr_is_size {m : Mo} {A : Ad} (G : Glb m A) : FnM m (tab A) 2 A.f_is_size 2 g_is_size := by
  obtain ⟨fd, F, b⟩ := G.F_is_size
  exact fn_mk F ⟨rfl, rfl, rfl, by decide +kernel, rfl, by decide +kernel, by decide +kernel⟩ b (r_is_size.2 G)
theorem k_is_size {m : Mo} {A : Ad} (G : Glb m A) : FnM m (tab A) 2 A.f_is_size 2 g_is_size := kr_is_size G
set_option maxHeartbeats 4000000 in
noncomputable def r_BathD_initD : { fb : Slots → M Fl // ∀ {m : Mo} {A : Ad} (_ : Glb m A), SSs m (tab A) 2 true true (defScope s_BathD_initD) ["self", "width", "height", "cells"] ["self", "width", "height", "cells"] (defBody s_BathD_initD) fb } := ⟨_, fun {m A} G =>
  (ss_cons (s_if (t_not (t_val (e_call rfl ((k_is_number G).mono (by decide)) G.g_is_number (a_cons (e_var 1) (a_cons e_int (a_cons (e_gint G.c_MAX_SIDE) a_nil))))))
      (ss_one s_never)
      ss_nil)
    (ss_cons (s_if (t_not (t_val (e_call rfl ((k_is_size G).mono (by decide)) G.g_is_size (a_cons (e_var 1) (a_cons (e_var 2) a_nil)))))
      (ss_one s_never)
      ss_nil)
    (ss_cons (s_if (t_not (t_val (e_call rfl ((k_are_signs G).mono (by decide)) G.g_are_signs (a_cons (e_bin o_mul (e_var 1) (e_var 2)) (a_cons (e_var 3) a_nil)))))
      (ss_one s_never)
      ss_nil)
    (ss_one (s_slt G.f_Bath_parts (e_var 0) (e_tup (a_cons (e_var 1) (a_cons (e_var 2) (a_cons (e_var 3) a_nil)))))))))⟩
noncomputable def g_BathD_initD : List W → M W := bodyM 4 4 r_BathD_initD.1
theorem kr_BathD_initD {m : Mo} {A : Ad} (G : Glb m A) : FnM m (tab A) 3 A.f_BathD_initD 4 g_BathD_initD := by
  obtain ⟨fd, F, b⟩ := G.F_BathD_initD
  exact fn_mk F ⟨rfl, rfl, rfl, by decide +kernel, rfl, by decide +kernel, by decide +kernel⟩ b (r_BathD_initD.2 G)
theorem k_BathD_initD {m : Mo} {A : Ad} (G : Glb m A) : FnM m (tab A) 3 A.f_BathD_initD 4 g_BathD_initD := kr_BathD_initD G
set_option maxHeartbeats 4000000 in
noncomputable def r_Bath_width : { fb : Slots → M Fl // ∀ {m : Mo} {A : Ad} (_ : Glb m A), SSs m (tab A) 0 true true (defScope s_Bath_width) ["self"] ["self"] (defBody s_Bath_width) fb } := ⟨_, fun {m A} G =>
  (ss_one (s_ret (e_ix (e_slt G.f_Bath_parts (e_var 0)) e_int)))⟩
noncomputable def g_Bath_width : List W → M W := bodyM 1 1 r_Bath_width.1
theorem kr_Bath_width {m : Mo} {A : Ad} (G : Glb m A) : FnM m (tab A) 1 A.f_Bath_width 1 g_Bath_width := by
  obtain ⟨fd, F, b⟩ := G.F_Bath_width
  exact fn_mk F ⟨rfl, rfl, rfl, by decide +kernel, rfl, by decide +kernel, by decide +kernel⟩ b (r_Bath_width.2 G)
theorem k_Bath_width {m : Mo} {A : Ad} (G : Glb m A) : FnM m (tab A) 1 A.f_Bath_width 1 g_Bath_width := kr_Bath_width G
theorem calm_Bath_width : Calm g_Bath_width := calm_ret1 fun sl => ((CalmM.getSl _ _).bd fun w => .fld _ _ _ _).bd fun x => (CalmM.ret _).bd fun y => .ix _ _

set_option maxHeartbeats 4000000 in
noncomputable def r_Bath_height : { fb : Slots → M Fl // ∀ {m : Mo} {A : Ad} (_ : Glb m A), SSs m (tab A) 0 true true (defScope s_Bath_height) ["self"] ["self"] (defBody s_Bath_height) fb } := ⟨_, fun {m A} G =>
  (ss_one (s_ret (e_ix (e_slt G.f_Bath_parts (e_var 0)) e_int)))⟩
noncomputable def g_Bath_height : List W → M W := bodyM 1 1 r_Bath_height.1
theorem kr_Bath_height {m : Mo} {A : Ad} (G : Glb m A) : FnM m (tab A) 1 A.f_Bath_height 1 g_Bath_height := by
  obtain ⟨fd, F, b⟩ := G.F_Bath_height
  exact fn_mk F ⟨rfl, rfl, rfl, by decide +kernel, rfl, by decide +kernel, by decide +kernel⟩ b (r_Bath_height.2 G)
theorem k_Bath_height {m : Mo} {A : Ad} (G : Glb m A) : FnM m (tab A) 1 A.f_Bath_height 1 g_Bath_height := kr_Bath_height G
theorem calm_Bath_height : Calm g_Bath_height := calm_ret1 fun sl => ((CalmM.getSl _ _).bd fun w => .fld _ _ _ _).bd fun x => (CalmM.ret _).bd fun y => .ix _ _

set_option maxHeartbeats 4000000 in
noncomputable def r_Bath_cells : { fb : Slots → M Fl // ∀ {m : Mo} {A : Ad} (_ : Glb m A), SSs m (tab A) 0 true true (defScope s_Bath_cells) ["self"] ["self"] (defBody s_Bath_cells) fb } := ⟨_, fun {m A} G =>
  (ss_one (s_ret (e_ix (e_slt G.f_Bath_parts (e_var 0)) e_int)))⟩
noncomputable def g_Bath_cells : List W → M W := bodyM 1 1 r_Bath_cells.1
theorem kr_Bath_cells {m : Mo} {A : Ad} (G : Glb m A) : FnM m (tab A) 1 A.f_Bath_cells 1 g_Bath_cells := by
  obtain ⟨fd, F, b⟩ := G.F_Bath_cells
  exact fn_mk F ⟨rfl, rfl, rfl, by decide +kernel, rfl, by decide +kernel, by decide +kernel⟩ b (r_Bath_cells.2 G)
theorem k_Bath_cells {m : Mo} {A : Ad} (G : Glb m A) : FnM m (tab A) 1 A.f_Bath_cells 1 g_Bath_cells := kr_Bath_cells G
theorem calm_Bath_cells : Calm g_Bath_cells := calm_ret1 fun sl => ((CalmM.getSl _ _).bd fun w => .fld _ _ _ _).bd fun x => (CalmM.ret _).bd fun y => .ix _ _

set_option maxHeartbeats 4000000 in
noncomputable def r_BathD_lenD : { fb : Slots → M Fl // ∀ {m : Mo} {A : Ad} (_ : Glb m A), SSs m (tab A) 0 true true (defScope s_BathD_lenD) ["self"] ["self"] (defBody s_BathD_lenD) fb } := ⟨_, fun {m A} G =>
  (ss_one (s_ret (e_blt n_len G.n_len (a_cons (e_ix (e_slt G.f_Bath_parts (e_var 0)) e_int) a_nil) PySem.boot_len)))⟩
noncomputable def g_BathD_lenD : List W → M W := bodyM 1 1 r_BathD_lenD.1
theorem kr_BathD_lenD {m : Mo} {A : Ad} (G : Glb m A) : FnM m (tab A) 1 A.f_BathD_lenD 1 g_BathD_lenD := by
  obtain ⟨fd, F, b⟩ := G.F_BathD_lenD
  exact fn_mk F ⟨rfl, rfl, rfl, by decide +kernel, rfl, by decide +kernel, by decide +kernel⟩ b (r_BathD_lenD.2 G)
theorem k_BathD_lenD {m : Mo} {A : Ad} (G : Glb m A) : FnM m (tab A) 1 A.f_BathD_lenD 1 g_BathD_lenD := kr_BathD_lenD G
set_option maxHeartbeats 4000000 in
noncomputable def r_BathD_eqD : { fb : Slots → M Fl // ∀ {m : Mo} {A : Ad} (_ : Glb m A), SSs m (tab A) 2 true true (defScope s_BathD_eqD) ["self", "other"] ["self", "other"] (defBody s_BathD_eqD) fb } := ⟨_, fun {m A} G =>
  (ss_one (s_ret (e_and (e_isiS G.isi_Bath G.g_Bath G.n_isinstance (e_var 1)) (e_one (e_cmp c_eq (e_slt G.f_Bath_parts (e_var 0)) (e_tup (a_cons (e_propS rfl G.p_Bath_width (k_Bath_width G) calm_Bath_width (e_var 1)) (a_cons (e_propS rfl G.p_Bath_height (k_Bath_height G) calm_Bath_height (e_var 1)) (a_cons (e_propS rfl G.p_Bath_cells (k_Bath_cells G) calm_Bath_cells (e_var 1)) a_nil)))))))))⟩
noncomputable def g_BathD_eqD : List W → M W := bodyM 2 2 r_BathD_eqD.1
theorem kr_BathD_eqD {m : Mo} {A : Ad} (G : Glb m A) : FnM m (tab A) 3 A.f_BathD_eqD 2 g_BathD_eqD := by
  obtain ⟨fd, F, b⟩ := G.F_BathD_eqD
  exact fn_mk F ⟨rfl, rfl, rfl, by decide +kernel, rfl, by decide +kernel, by decide +kernel⟩ b (r_BathD_eqD.2 G)
theorem k_BathD_eqD {m : Mo} {A : Ad} (G : Glb m A) : FnM m (tab A) 3 A.f_BathD_eqD 2 g_BathD_eqD := kr_BathD_eqD G
theorem calm_BathD_eqD : Calm g_BathD_eqD := calm_ret1 fun sl => ((CalmM.getSl _ _).bd fun w => .isi1 _ _).and (((CalmM.getSl _ _).bd fun w => .fld _ _ _ _).bd fun x => (((((CalmM.getSl _ _).bd fun w => .prop calm_Bath_width _).bd fun x =>
  (((CalmM.getSl _ _).bd fun w => .prop calm_Bath_height _).bd fun y => (((CalmM.getSl _ _).bd fun w => .prop calm_Bath_cells _).bd fun z => (CalmM.ret _).bd fun r => .ret _).bd fun r => .ret _).bd fun r => .ret _).bd fun ws => .tup _).bd fun y => .eq _ _))


set_option maxHeartbeats 4000000 in
noncomputable def r_are_strides : { fb : Slots → M Fl // ∀ {m : Mo} {A : Ad} (_ : Glb m A), SSs m (tab A) 1 true true (defScope s_are_strides) ["value", "count", "stride"] ["value", "count", "stride"] (defBody s_are_strides) fb } := ⟨_, fun {m A} G =>
  (ss_cons (s_if (t_w (w_or (t_not (t_val (e_blt n_isi G.n_isinstance (a_cons (e_var 0) (a_cons (e_ty (id := "tuple") G.n_tuple (by decide +kernel)) a_nil)) (by decide +kernel)))) (w_or1 (t_cmp c_ne (e_blt n_len G.n_len (a_cons (e_var 0) a_nil) PySem.boot_len) (e_var 1)))))
      (ss_one (s_ret e_bl))
      ss_nil)
    (ss_one (s_ret (e_blt (n_all rfl) G.n_all (a_cons (e_lc [("stride", 2)] rfl (it_val (e_var 0)) (by decide +kernel) (tg_one 2) ts_nil (e_call rfl ((k_is_number G).mono (by decide)) G.g_is_number (a_cons (e_var 2) (a_cons (e_bin o_sub e_int (e_gint G.c_MAX_STRIDE)) (a_cons (e_gint G.c_MAX_STRIDE) a_nil))))) a_nil) (by decide +kernel)))))⟩
noncomputable def g_are_strides : List W → M W := bodyM 3 2 r_are_strides.1
theorem kr_are_strides {m : Mo} {A : Ad} (G : Glb m A) : FnM m (tab A) 2 A.f_are_strides 2 g_are_strides := by
  obtain ⟨fd, F, b⟩ := G.F_are_strides
  exact fn_mk F ⟨rfl, rfl, rfl, by decide +kernel, rfl, by decide +kernel, by decide +kernel⟩ b (r_are_strides.2 G)
theorem k_are_strides {m : Mo} {A : Ad} (G : Glb m A) : FnM m (tab A) 2 A.f_are_strides 2 g_are_strides := kr_are_strides G
set_option maxHeartbeats 4000000 in
noncomputable def r_are_cells : { fb : Slots → M Fl // ∀ {m : Mo} {A : Ad} (_ : Glb m A), SSs m (tab A) 1 true true (defScope s_are_cells) ["size", "value", "cell", "one", "other"] ["size", "value", "cell", "one", "other"] (defBody s_are_cells) fb } := ⟨_, fun {m A} G =>
  (ss_cons (s_if (t_w (w_or (t_not (t_val (e_blt n_isi G.n_isinstance (a_cons (e_var 1) (a_cons (e_ty (id := "tuple") G.n_tuple (by decide +kernel)) a_nil)) (by decide +kernel)))) (w_or (t_cmp c_eq (e_var 1) (e_tup a_nil)) (w_or1 (t_not (t_val (e_blt (n_all rfl) G.n_all (a_cons (e_lc [("cell", 2)] rfl (it_val (e_var 1)) (by decide +kernel) (tg_one 2) ts_nil (e_call rfl ((k_is_number G).mono (by decide)) G.g_is_number (a_cons (e_var 2) (a_cons e_int (a_cons (e_bin o_sub (e_var 0) e_int) a_nil))))) a_nil) (by decide +kernel))))))))
      (ss_one (s_ret e_bl))
      ss_nil)
    (ss_one (s_ret (e_blt (n_all rfl) G.n_all (a_cons (e_lc [("one", 3), ("other", 4)] rfl (it_zip G.n_zip (a_cons (e_var 1) (a_cons (e_slice (e_var 1) (o_some e_int) o_no) a_nil))) (by decide +kernel) (tg_many ["one", "other"] [⟨73, 32, 73, 35⟩, ⟨73, 37, 73, 42⟩] [3, 4] rfl (hn := names_at (by decide +kernel))) ts_nil (e_cmp c_lt (e_var 3) (e_var 4))) a_nil) (by decide +kernel)))))⟩
noncomputable def g_are_cells : List W → M W := bodyM 5 2 r_are_cells.1
theorem kr_are_cells {m : Mo} {A : Ad} (G : Glb m A) : FnM m (tab A) 2 A.f_are_cells 2 g_are_cells := by
  obtain ⟨fd, F, b⟩ := G.F_are_cells
  exact fn_mk F ⟨rfl, rfl, rfl, by decide +kernel, rfl, by decide +kernel, by decide +kernel⟩ b (r_are_cells.2 G)
theorem k_are_cells {m : Mo} {A : Ad} (G : Glb m A) : FnM m (tab A) 2 A.f_are_cells 2 g_are_cells := kr_are_cells G
set_option maxHeartbeats 4000000 in
noncomputable def r_is_draw : { fb : Slots → M Fl // ∀ {m : Mo} {A : Ad} (_ : Glb m A), SSs m (tab A) 2 true true (defScope s_is_draw) ["width", "height", "value"] ["width", "height", "value"] (defBody s_is_draw) fb } := ⟨_, fun {m A} G =>
  (ss_cons (s_if (t_w (w_or (t_not (t_val (e_blt n_isi G.n_isinstance (a_cons (e_var 2) (a_cons (e_ty (id := "tuple") G.n_tuple (by decide +kernel)) a_nil)) (by decide +kernel)))) (w_or (t_cmp c_ne (e_blt n_len G.n_len (a_cons (e_var 2) a_nil) PySem.boot_len) e_int) (w_or1 (t_cmp c_notin (e_ix (e_var 2) e_int) (e_tup (a_cons (e_gstr G.c_RAKE) (a_cons (e_gstr G.c_COMB) a_nil))))))))
      (ss_one (s_ret e_bl))
      ss_nil)
    (ss_one (s_ret (e_call rfl ((k_are_strides G).mono (by decide)) G.g_are_strides (a_cons (e_ix (e_var 2) e_int) (a_cons (e_if (t_cmp c_eq (e_ix (e_var 2) e_int) (e_gstr G.c_RAKE)) (e_var 1) (e_var 0)) a_nil))))))⟩
noncomputable def g_is_draw : List W → M W := bodyM 3 3 r_is_draw.1
theorem kr_is_draw {m : Mo} {A : Ad} (G : Glb m A) : FnM m (tab A) 3 A.f_is_draw 3 g_is_draw := by
  obtain ⟨fd, F, b⟩ := G.F_is_draw
  exact fn_mk F ⟨rfl, rfl, rfl, by decide +kernel, rfl, by decide +kernel, by decide +kernel⟩ b (r_is_draw.2 G)
theorem k_is_draw {m : Mo} {A : Ad} (G : Glb m A) : FnM m (tab A) 3 A.f_is_draw 3 g_is_draw := kr_is_draw G
set_option maxHeartbeats 4000000 in
noncomputable def r_is_deed : { fb : Slots → M Fl // ∀ {m : Mo} {A : Ad} (_ : Glb m A), SSs m (tab A) 3 true true (defScope s_is_deed) ["width", "height", "value"] ["width", "height", "value"] (defBody s_is_deed) fb } := ⟨_, fun {m A} G =>
  (ss_cons (s_if (t_val (e_call rfl ((k_is_draw G).mono (by decide)) G.g_is_draw (a_cons (e_var 0) (a_cons (e_var 1) (a_cons (e_var 2) a_nil)))))
      (ss_one (s_ret e_bl))
      ss_nil)
    (ss_cons (s_if (t_w (w_or (t_not (t_val (e_blt n_isi G.n_isinstance (a_cons (e_var 2) (a_cons (e_ty (id := "tuple") G.n_tuple (by decide +kernel)) a_nil)) (by decide +kernel)))) (w_or1 (t_cmp c_eq (e_var 2) (e_tup a_nil)))))
      (ss_one (s_ret e_bl))
      ss_nil)
    (ss_cons (s_if (t_cmp c_eq (e_ix (e_var 2) e_int) (e_gstr G.c_DROP))
      (ss_one (s_ret (e_and (e_cmp c_eq (e_blt n_len G.n_len (a_cons (e_var 2) a_nil) PySem.boot_len) e_int) (e_and (e_call rfl ((k_is_number G).mono (by decide)) G.g_is_number (a_cons (e_ix (e_var 2) e_int) (a_cons e_int (a_cons (e_bin o_sub (e_bin o_mul (e_var 0) (e_var 1)) e_int) a_nil)))) (e_one (e_call rfl ((k_is_letter G).mono (by decide)) G.g_is_letter (a_cons (e_ix (e_var 2) e_int) a_nil)))))))
      ss_nil)
    (ss_one (s_ret (e_and (e_cmp c_eq (e_ix (e_var 2) e_int) (e_gstr G.c_PAPER)) (e_and (e_cmp c_eq (e_blt n_len G.n_len (a_cons (e_var 2) a_nil) PySem.boot_len) e_int) (e_one (e_call rfl ((k_are_cells G).mono (by decide)) G.g_are_cells (a_cons (e_bin o_mul (e_var 0) (e_var 1)) (a_cons (e_ix (e_var 2) e_int) a_nil)))))))))))⟩
noncomputable def g_is_deed : List W → M W := bodyM 3 3 r_is_deed.1
theorem kr_is_deed {m : Mo} {A : Ad} (G : Glb m A) : FnM m (tab A) 4 A.f_is_deed 3 g_is_deed := by
  obtain ⟨fd, F, b⟩ := G.F_is_deed
  exact fn_mk F ⟨rfl, rfl, rfl, by decide +kernel, rfl, by decide +kernel, by decide +kernel⟩ b (r_is_deed.2 G)
theorem k_is_deed {m : Mo} {A : Ad} (G : Glb m A) : FnM m (tab A) 4 A.f_is_deed 3 g_is_deed := kr_is_deed G
set_option maxHeartbeats 4000000 in
noncomputable def r_check_recipe : { fb : Slots → M Fl // ∀ {m : Mo} {A : Ad} (_ : Glb m A), SSs m (tab A) 4 true true (defScope s_check_recipe) ["width", "height", "recipe", "index", "deed"] ["width", "height", "recipe", "index", "deed"] (defBody s_check_recipe) fb } := ⟨_, fun {m A} G =>
  (ss_one (s_for rfl (it_enumerate G.n_enumerate (a_cons (e_var 2) a_nil)) (g_tup (n := 2) rfl (gs_cons (g_name 3) (gs_cons (g_name 4) gs_nil)))
      (ss_one (s_if (t_w (w_or (t_cmp c_eq (e_var 3) (e_gint G.c_MAX_DEEDS)) (w_or1 (t_not (t_val (e_call rfl ((k_is_deed G).mono (by decide)) G.g_is_deed (a_cons (e_var 0) (a_cons (e_var 1) (a_cons (e_var 4) a_nil)))))))))
      (ss_one s_never)
      ss_nil))))⟩
noncomputable def g_check_recipe : List W → M W := bodyM 5 3 r_check_recipe.1
theorem kr_check_recipe {m : Mo} {A : Ad} (G : Glb m A) : FnM m (tab A) 5 A.f_check_recipe 3 g_check_recipe := by
  obtain ⟨fd, F, b⟩ := G.F_check_recipe
  exact fn_mk F ⟨rfl, rfl, rfl, by decide +kernel, rfl, by decide +kernel, by decide +kernel⟩ b (r_check_recipe.2 G)
theorem k_check_recipe {m : Mo} {A : Ad} (G : Glb m A) : FnM m (tab A) 5 A.f_check_recipe 3 g_check_recipe := kr_check_recipe G
set_option maxHeartbeats 4000000 in
noncomputable def r_drawn : { fb : Slots → M Fl // ∀ {m : Mo} {A : Ad} (_ : Glb m A), SSs m (tab A) 0 true true (defScope s_drawn) ["width", "height", "deed", "kind", "strides", "found", "cell", "row", "place"] ["width", "height", "deed", "kind", "strides", "found", "cell", "row", "place"] (defBody s_drawn) fb } := ⟨_, fun {m A} G =>
  (ss_cons (s_asg (e_var 2) (g_tup (n := 2) rfl (gs_cons (g_name 3) (gs_cons (g_name 4) gs_nil))))
    (ss_cons (s_set 5 (e_lst a_nil))
    (ss_cons (s_for rfl (it_rng1 G.n_range (a_cons (e_bin o_mul (e_var 0) (e_var 1)) a_nil)) (g_name 6)
      (ss_cons (s_par2 7 8 rfl (a_cons (e_bin o_fdiv (e_var 6) (e_var 0)) (a_cons (e_bin o_sub (e_var 6) (e_bin o_mul (e_bin o_fdiv (e_var 6) (e_var 0)) (e_var 0))) a_nil)) (hw := (fun X g => by rw [env_sc g]; rfl)))
    (ss_cons (s_if (t_cmp c_eq (e_var 3) (e_gstr G.c_RAKE))
      (ss_one (s_set 8 (e_bin o_mod (e_bty n_int G.n_int (a_cons (e_bin o_sub (e_var 8) (e_ix (e_var 4) (e_var 7))) a_nil) (by decide +kernel)) (e_var 0))))
      (ss_one (s_set 7 (e_bin o_mod (e_bty n_int G.n_int (a_cons (e_bin o_sub (e_var 7) (e_ix (e_var 4) (e_var 8))) a_nil) (by decide +kernel)) (e_var 1)))))
    (ss_one (s_expr (e_bm PySem.F.plainAttrs_list PySem.F.slot_list_append PySem.F.type_list_append m_append (e_var 5) (a_cons (e_bin o_add (e_bin o_mul (e_var 7) (e_var 0)) (e_var 8)) a_nil)))))))
    (ss_one (s_ret (e_var 5))))))⟩
noncomputable def g_drawn : List W → M W := bodyM 9 3 r_drawn.1
theorem kr_drawn {m : Mo} {A : Ad} (G : Glb m A) : FnM m (tab A) 1 A.f_drawn 3 g_drawn := by
  obtain ⟨fd, F, b⟩ := G.F_drawn
  exact fn_mk F ⟨rfl, rfl, rfl, by decide +kernel, rfl, by decide +kernel, by decide +kernel⟩ b (r_drawn.2 G)
theorem k_drawn {m : Mo} {A : Ad} (G : Glb m A) : FnM m (tab A) 1 A.f_drawn 3 g_drawn := kr_drawn G
set_option maxHeartbeats 4000000 in
noncomputable def r_pushed : { fb : Slots → M Fl // ∀ {m : Mo} {A : Ad} (_ : Glb m A), SSs m (tab A) 0 true true (defScope s_pushed) ["width", "height", "cell", "found", "row", "place", "other"] ["width", "height", "cell", "found", "row", "place", "other"] (defBody s_pushed) fb } := ⟨_, fun {m A} G =>
  (ss_cons (s_set 3 (e_lrng rfl G.n_list G.n_range (e_bin o_mul (e_var 0) (e_var 1))))
    (ss_cons (s_par2 4 5 rfl (a_cons (e_bin o_fdiv (e_var 2) (e_var 0)) (a_cons (e_bin o_sub (e_var 2) (e_bin o_mul (e_bin o_fdiv (e_var 2) (e_var 0)) (e_var 0))) a_nil)) (hw := (fun X g => by rw [env_sc g]; rfl)))
    (ss_cons (s_for rfl (it_rng1 G.n_range (a_cons (e_var 0) a_nil)) (g_name 6)
      (ss_one (s_asg (e_bin o_sub (e_bin o_add (e_bin o_add (e_bin o_mul (e_var 4) (e_var 0)) (e_var 6)) (e_bty n_int G.n_int (a_cons (e_cmp c_lt (e_var 6) (e_var 5)) a_nil) (by decide +kernel))) (e_bty n_int G.n_int (a_cons (e_cmp c_gt (e_var 6) (e_var 5)) a_nil) (by decide +kernel))) (g_ix (e_var 3) (e_bin o_add (e_bin o_mul (e_var 4) (e_var 0)) (e_var 6))))))
    (ss_cons (s_for rfl (it_rng1 G.n_range (a_cons (e_var 1) a_nil)) (g_name 6)
      (ss_one (s_asg (e_bin o_add (e_bin o_mul (e_bin o_sub (e_bin o_add (e_var 6) (e_bty n_int G.n_int (a_cons (e_cmp c_lt (e_var 6) (e_var 4)) a_nil) (by decide +kernel))) (e_bty n_int G.n_int (a_cons (e_cmp c_gt (e_var 6) (e_var 4)) a_nil) (by decide +kernel))) (e_var 0)) (e_var 5)) (g_ix (e_var 3) (e_bin o_add (e_bin o_mul (e_var 6) (e_var 0)) (e_var 5))))))
    (ss_cons (s_asg e_non (g_ix (e_var 3) (e_var 2)))
    (ss_one (s_ret (e_var 3))))))))⟩
noncomputable def g_pushed : List W → M W := bodyM 7 3 r_pushed.1
theorem kr_pushed {m : Mo} {A : Ad} (G : Glb m A) : FnM m (tab A) 1 A.f_pushed 3 g_pushed := by
  obtain ⟨fd, F, b⟩ := G.F_pushed
  exact fn_mk F ⟨rfl, rfl, rfl, by decide +kernel, rfl, by decide +kernel, by decide +kernel⟩ b (r_pushed.2 G)
theorem k_pushed {m : Mo} {A : Ad} (G : Glb m A) : FnM m (tab A) 1 A.f_pushed 3 g_pushed := kr_pushed G
set_option maxHeartbeats 4000000 in
noncomputable def r_TrayD_initD : { fb : Slots → M Fl // ∀ {m : Mo} {A : Ad} (_ : Glb m A), SSs m (tab A) 0 true true (defScope s_TrayD_initD) ["self", "width", "height", "things"] ["self", "width", "height", "things"] (defBody s_TrayD_initD) fb } := ⟨_, fun {m A} G =>
  (ss_cons (s_fld G.f_Tray_size (e_var 0) (e_tup (a_cons (e_var 1) (a_cons (e_var 2) a_nil))))
    (ss_cons (s_fld G.f_Tray_things (e_var 0) (e_bty (n_list rfl) G.n_list (a_cons (e_var 3) a_nil) (by decide +kernel)))
    (ss_one (s_fld G.f_Tray_papers (e_var 0) (e_lst a_nil)))))⟩
noncomputable def g_TrayD_initD : List W → M W := bodyM 4 4 r_TrayD_initD.1
theorem kr_TrayD_initD {m : Mo} {A : Ad} (G : Glb m A) : FnM m (tab A) 1 A.f_TrayD_initD 4 g_TrayD_initD := by
  obtain ⟨fd, F, b⟩ := G.F_TrayD_initD
  exact fn_mk F ⟨rfl, rfl, rfl, by decide +kernel, rfl, by decide +kernel, by decide +kernel⟩ b (r_TrayD_initD.2 G)
theorem k_TrayD_initD {m : Mo} {A : Ad} (G : Glb m A) : FnM m (tab A) 1 A.f_TrayD_initD 4 g_TrayD_initD := kr_TrayD_initD G
set_option maxHeartbeats 4000000 in
noncomputable def r_Tray_do : { fb : Slots → M Fl // ∀ {m : Mo} {A : Ad} (_ : Glb m A), SSs m (tab A) 1 true true (defScope s_Tray_do) ["self", "deed", "fresh", "width", "height", "cell", "thing", "ways"] ["self", "deed", "fresh", "width", "height", "cell", "thing", "ways"] (defBody s_Tray_do) fb } := ⟨_, fun {m A} G =>
  (ss_cons (s_asg (e_fld G.f_Tray_size (e_var 0)) (g_tup (n := 2) rfl (gs_cons (g_name 3) (gs_cons (g_name 4) gs_nil))))
    (ss_cons (s_if (t_cmp c_eq (e_ix (e_var 1) e_int) (e_gstr G.c_PAPER))
      (ss_cons (s_expr (e_bm PySem.F.plainAttrs_list PySem.F.slot_list_append PySem.F.type_list_append m_append (e_fld G.f_Tray_papers (e_var 0)) (a_cons (e_lc [("cell", 5)] rfl (it_val (e_ix (e_var 1) e_int)) (by decide +kernel) (tg_one 5) ts_nil (e_ix (e_fld G.f_Tray_things (e_var 0)) (e_var 5))) a_nil)))
    (ss_cons (s_fld G.f_Tray_things (e_var 0) (e_lc [("cell", 5), ("thing", 6)] rfl (it_enumerate G.n_enumerate (a_cons (e_fld G.f_Tray_things (e_var 0)) a_nil)) (by decide +kernel) (tg_many ["cell", "thing"] [⟨121, 67, 121, 71⟩, ⟨121, 73, 121, 78⟩] [5, 6] rfl (hn := names_at (by decide +kernel))) ts_nil (e_if (t_cmp c_in (e_var 5) (e_ix (e_var 1) e_int)) (e_var 2) (e_var 6))))
    (ss_one s_retN)))
      ss_nil)
    (ss_cons (s_set 7 (e_if (t_cmp c_eq (e_ix (e_var 1) e_int) (e_gstr G.c_DROP)) (e_call rfl ((k_pushed G).mono (by decide)) G.g_pushed (a_cons (e_var 3) (a_cons (e_var 4) (a_cons (e_ix (e_var 1) e_int) a_nil)))) (e_call rfl ((k_drawn G).mono (by decide)) G.g_drawn (a_cons (e_var 3) (a_cons (e_var 4) (a_cons (e_var 1) a_nil))))))
    (ss_one (s_fld G.f_Tray_things (e_var 0) (e_lc [("cell", 5)] rfl (it_val (e_var 7)) (by decide +kernel) (tg_one 5) ts_nil (e_if (t_cmp c_is (e_var 5) e_non) (e_var 2) (e_ix (e_fld G.f_Tray_things (e_var 0)) (e_var 5)))))))))⟩
noncomputable def g_Tray_do : List W → M W := bodyM 8 3 r_Tray_do.1
theorem kr_Tray_do {m : Mo} {A : Ad} (G : Glb m A) : FnM m (tab A) 2 A.f_Tray_do 3 g_Tray_do := by
  obtain ⟨fd, F, b⟩ := G.F_Tray_do
  exact fn_mk F ⟨rfl, rfl, rfl, by decide +kernel, rfl, by decide +kernel, by decide +kernel⟩ b (r_Tray_do.2 G)
theorem k_Tray_do {m : Mo} {A : Ad} (G : Glb m A) : FnM m (tab A) 2 A.f_Tray_do 3 g_Tray_do := kr_Tray_do G
set_option maxHeartbeats 4000000 in
noncomputable def r_all_steps : { fb : Slots → M Fl // ∀ {m : Mo} {A : Ad} (_ : Glb m A), SSs m (tab A) 2 true true (defScope s_all_steps) ["width", "height", "cells", "recipe", "tray", "found", "deed"] ["width", "height", "cells", "recipe", "tray", "found", "deed"] (defBody s_all_steps) fb } := ⟨_, fun {m A} G =>
  (ss_cons (s_set 4 (e_make false 6 rfl G.mk_Tray (k_TrayD_initD G) G.g_Tray (a_cons (e_var 0) (a_cons (e_var 1) (a_cons (e_var 2) a_nil)))))
    (ss_cons (s_set 5 (e_lst (a_cons (e_var 2) a_nil)))
    (ss_cons (s_for rfl (it_val (e_var 3)) (g_name 6)
      (ss_cons (s_expr (e_meth (pl := _) 6 rfl (e_var 4) G.cl_Tray G.m_Tray_do (k_Tray_do G) (a_cons (e_var 6) (a_cons (e_if (t_cmp c_eq (e_ix (e_var 6) e_int) (e_gstr G.c_DROP)) (e_ix (e_var 6) e_int) (e_gstr G.c_NOTHING)) a_nil)) (by show _ ∉ (["size", "things", "papers"] : List Str); decide +kernel)))
    (ss_one (s_expr (e_bm PySem.F.plainAttrs_list PySem.F.slot_list_append PySem.F.type_list_append m_append (e_var 5) (a_cons (e_bm PySem.F.plainAttrs_str PySem.F.slot_str_join PySem.F.type_str_join m_join e_str (a_cons (e_fld G.f_Tray_things (e_var 4)) a_nil)) a_nil))))))
    (ss_one (s_ret (e_var 5))))))⟩
noncomputable def g_all_steps : List W → M W := bodyM 7 4 r_all_steps.1
theorem kr_all_steps {m : Mo} {A : Ad} (G : Glb m A) : FnM m (tab A) 3 A.f_all_steps 4 g_all_steps := by
  obtain ⟨fd, F, b⟩ := G.F_all_steps
  exact fn_mk F ⟨rfl, rfl, rfl, by decide +kernel, rfl, by decide +kernel, by decide +kernel⟩ b (r_all_steps.2 G)
theorem k_all_steps {m : Mo} {A : Ad} (G : Glb m A) : FnM m (tab A) 3 A.f_all_steps 4 g_all_steps := kr_all_steps G
set_option maxHeartbeats 4000000 in
noncomputable def r_check_places : { fb : Slots → M Fl // ∀ {m : Mo} {A : Ad} (_ : Glb m A), SSs m (tab A) 2 true true (defScope s_check_places) ["bath", "cells"] ["bath", "cells"] (defBody s_check_places) fb } := ⟨_, fun {m A} G =>
  (ss_one (s_if (t_not (t_val (e_call rfl ((k_are_cells G).mono (by decide)) G.g_are_cells (a_cons (e_blt (n_lenOwn rfl G.len_Bath (k_BathD_lenD G)) G.n_len (a_cons (e_var 0) a_nil) PySem.boot_len) (a_cons (e_var 1) a_nil)))))
      (ss_one s_never)
      ss_nil))⟩
noncomputable def g_check_places : List W → M W := bodyM 2 2 r_check_places.1
theorem kr_check_places {m : Mo} {A : Ad} (G : Glb m A) : FnM m (tab A) 3 A.f_check_places 2 g_check_places := by
  obtain ⟨fd, F, b⟩ := G.F_check_places
  exact fn_mk F ⟨rfl, rfl, rfl, by decide +kernel, rfl, by decide +kernel, by decide +kernel⟩ b (r_check_places.2 G)
theorem k_check_places {m : Mo} {A : Ad} (G : Glb m A) : FnM m (tab A) 3 A.f_check_places 2 g_check_places := kr_check_places G
set_option maxHeartbeats 4000000 in
noncomputable def r_check_text : { fb : Slots → M Fl // ∀ {m : Mo} {A : Ad} (_ : Glb m A), SSs m (tab A) 1 true true (defScope s_check_text) ["count", "text"] ["count", "text"] (defBody s_check_text) fb } := ⟨_, fun {m A} G =>
  (ss_one (s_if (t_not (t_val (e_call rfl ((k_are_signs G).mono (by decide)) G.g_are_signs (a_cons (e_var 0) (a_cons (e_var 1) a_nil)))))
      (ss_one s_never)
      ss_nil))⟩
noncomputable def g_check_text : List W → M W := bodyM 2 2 r_check_text.1
theorem kr_check_text {m : Mo} {A : Ad} (G : Glb m A) : FnM m (tab A) 2 A.f_check_text 2 g_check_text := by
  obtain ⟨fd, F, b⟩ := G.F_check_text
  exact fn_mk F ⟨rfl, rfl, rfl, by decide +kernel, rfl, by decide +kernel, by decide +kernel⟩ b (r_check_text.2 G)
theorem k_check_text {m : Mo} {A : Ad} (G : Glb m A) : FnM m (tab A) 2 A.f_check_text 2 g_check_text := kr_check_text G
set_option maxHeartbeats 4000000 in
noncomputable def r_check_some : { fb : Slots → M Fl // ∀ {m : Mo} {A : Ad} (_ : Glb m A), SSs m (tab A) 0 true true (defScope s_check_some) ["text", "sign"] ["text", "sign"] (defBody s_check_some) fb } := ⟨_, fun {m A} G =>
  (ss_one (s_if (t_w (w_or (t_cmp c_eq (e_var 0) e_str) (w_or1 (t_not (t_val (e_blt (n_all rfl) G.n_all (a_cons (e_lc [("sign", 1)] rfl (it_val (e_var 0)) (by decide +kernel) (tg_one 1) ts_nil (e_cmp c_in (e_var 1) (e_bin o_add (e_gstr G.c_LETTERS) (e_gstr G.c_NOTHING)))) a_nil) (by decide +kernel)))))))
      (ss_one s_never)
      ss_nil))⟩
noncomputable def g_check_some : List W → M W := bodyM 2 1 r_check_some.1
theorem kr_check_some {m : Mo} {A : Ad} (G : Glb m A) : FnM m (tab A) 1 A.f_check_some 1 g_check_some := by
  obtain ⟨fd, F, b⟩ := G.F_check_some
  exact fn_mk F ⟨rfl, rfl, rfl, by decide +kernel, rfl, by decide +kernel, by decide +kernel⟩ b (r_check_some.2 G)
theorem k_check_some {m : Mo} {A : Ad} (G : Glb m A) : FnM m (tab A) 1 A.f_check_some 1 g_check_some := kr_check_some G
set_option maxHeartbeats 4000000 in
noncomputable def r_paper_count : { fb : Slots → M Fl // ∀ {m : Mo} {A : Ad} (_ : Glb m A), SSs m (tab A) 2 true true (defScope s_paper_count) ["bath", "text", "counts", "sign", "place"] ["bath", "text", "counts", "sign", "place"] (defBody s_paper_count) fb } := ⟨_, fun {m A} G =>
  (ss_cons (s_expr (e_call rfl ((k_check_some G).mono (by decide)) G.g_check_some (a_cons (e_var 1) a_nil)))
    (ss_cons (s_set 2 (e_bin o_add (e_lst (a_cons e_int a_nil)) (e_bin o_mul (e_lst (a_cons e_int a_nil)) (e_blt n_len G.n_len (a_cons (e_var 1) a_nil) PySem.boot_len))))
    (ss_cons (s_for rfl (it_val (e_propS rfl G.p_Bath_cells (k_Bath_cells G) calm_Bath_cells (e_var 0))) (g_name 3)
      (ss_one (s_for rfl (it_rng3 G.n_range (a_cons (e_blt n_len G.n_len (a_cons (e_var 1) a_nil) PySem.boot_len) (a_cons e_int (a_cons (e_un o_neg e_int) a_nil)))) (g_name 4)
      (ss_one (s_if (t_cmp c_eq (e_ix (e_var 1) (e_bin o_sub (e_var 4) e_int)) (e_var 3))
      (ss_one (s_augIx (e_var 2) (e_var 4) (e_ix (e_var 2) (e_bin o_sub (e_var 4) e_int)) i_add))
      ss_nil)))))
    (ss_one (s_ret (e_ix (e_var 2) (e_blt n_len G.n_len (a_cons (e_var 1) a_nil) PySem.boot_len)))))))⟩
noncomputable def g_paper_count : List W → M W := bodyM 5 2 r_paper_count.1
theorem kr_paper_count {m : Mo} {A : Ad} (G : Glb m A) : FnM m (tab A) 3 A.f_paper_count 2 g_paper_count := by
  obtain ⟨fd, F, b⟩ := G.F_paper_count
  exact fn_mk F ⟨rfl, rfl, rfl, by decide +kernel, rfl, by decide +kernel, by decide +kernel⟩ b (r_paper_count.2 G)
theorem k_paper_count {m : Mo} {A : Ad} (G : Glb m A) : FnM m (tab A) 3 A.f_paper_count 2 g_paper_count := kr_paper_count G
set_option maxHeartbeats 4000000 in
noncomputable def r_first_paper : { fb : Slots → M Fl // ∀ {m : Mo} {A : Ad} (_ : Glb m A), SSs m (tab A) 2 true true (defScope s_first_paper) ["bath", "text", "found", "cell", "sign"] ["bath", "text", "found", "cell", "sign"] (defBody s_first_paper) fb } := ⟨_, fun {m A} G =>
  (ss_cons (s_expr (e_call rfl ((k_check_some G).mono (by decide)) G.g_check_some (a_cons (e_var 1) a_nil)))
    (ss_cons (s_set 2 (e_lst a_nil))
    (ss_cons (s_for rfl (it_enumerate G.n_enumerate (a_cons (e_propS rfl G.p_Bath_cells (k_Bath_cells G) calm_Bath_cells (e_var 0)) a_nil)) (g_tup (n := 2) rfl (gs_cons (g_name 3) (gs_cons (g_name 4) gs_nil)))
      (ss_one (s_if (t_w (w_and (t_cmp c_lt (e_blt n_len G.n_len (a_cons (e_var 2) a_nil) PySem.boot_len) (e_blt n_len G.n_len (a_cons (e_var 1) a_nil) PySem.boot_len)) (w_and1 (t_cmp c_eq (e_ix (e_var 1) (e_blt n_len G.n_len (a_cons (e_var 2) a_nil) PySem.boot_len)) (e_var 4)))))
      (ss_one (s_expr (e_bm PySem.F.plainAttrs_list PySem.F.slot_list_append PySem.F.type_list_append m_append (e_var 2) (a_cons (e_var 3) a_nil))))
      ss_nil)))
    (ss_one (s_ret (e_if (t_cmp c_eq (e_blt n_len G.n_len (a_cons (e_var 2) a_nil) PySem.boot_len) (e_blt n_len G.n_len (a_cons (e_var 1) a_nil) PySem.boot_len)) (e_bty n_tuple G.n_tuple (a_cons (e_var 2) a_nil) (by decide +kernel)) e_non))))))⟩
noncomputable def g_first_paper : List W → M W := bodyM 5 2 r_first_paper.1
theorem kr_first_paper {m : Mo} {A : Ad} (G : Glb m A) : FnM m (tab A) 3 A.f_first_paper 2 g_first_paper := by
  obtain ⟨fd, F, b⟩ := G.F_first_paper
  exact fn_mk F ⟨rfl, rfl, rfl, by decide +kernel, rfl, by decide +kernel, by decide +kernel⟩ b (r_first_paper.2 G)
theorem k_first_paper {m : Mo} {A : Ad} (G : Glb m A) : FnM m (tab A) 3 A.f_first_paper 2 g_first_paper := kr_first_paper G
set_option maxHeartbeats 4000000 in
noncomputable def r_moments : { fb : Slots → M Fl // ∀ {m : Mo} {A : Ad} (_ : Glb m A), SSs m (tab A) 5 true true (defScope s_moments) ["bath", "recipe", "cells", "text", "rows", "count", "row", "cell"] ["bath", "recipe", "cells", "text", "rows", "count", "row", "cell"] (defBody s_moments) fb } := ⟨_, fun {m A} G =>
  (ss_cons (s_expr (e_call rfl ((k_check_recipe G).mono (by decide)) G.g_check_recipe (a_cons (e_propS rfl G.p_Bath_width (k_Bath_width G) calm_Bath_width (e_var 0)) (a_cons (e_propS rfl G.p_Bath_height (k_Bath_height G) calm_Bath_height (e_var 0)) (a_cons (e_var 1) a_nil)))))
    (ss_cons (s_expr (e_call rfl ((k_check_places G).mono (by decide)) G.g_check_places (a_cons (e_var 0) (a_cons (e_var 2) a_nil))))
    (ss_cons (s_expr (e_call rfl ((k_check_text G).mono (by decide)) G.g_check_text (a_cons (e_blt n_len G.n_len (a_cons (e_var 2) a_nil) PySem.boot_len) (a_cons (e_var 3) a_nil))))
    (ss_cons (s_set 4 (e_call rfl ((k_all_steps G).mono (by decide)) G.g_all_steps (a_cons (e_propS rfl G.p_Bath_width (k_Bath_width G) calm_Bath_width (e_var 0)) (a_cons (e_propS rfl G.p_Bath_height (k_Bath_height G) calm_Bath_height (e_var 0)) (a_cons (e_propS rfl G.p_Bath_cells (k_Bath_cells G) calm_Bath_cells (e_var 0)) (a_cons (e_var 1) a_nil))))))
    (ss_one (s_ret (e_lc [("count", 5), ("row", 6)] rfl (it_enumerate G.n_enumerate (a_cons (e_var 4) a_nil)) (by decide +kernel) (tg_many ["count", "row"] [⟨162, 22, 162, 27⟩, ⟨162, 29, 162, 32⟩] [5, 6] rfl (hn := names_at (by decide +kernel))) (ts_one (t_cmp c_eq (e_bm PySem.F.plainAttrs_str PySem.F.slot_str_join PySem.F.type_str_join m_join e_str (a_cons (e_lc [("cell", 7)] rfl (it_val (e_var 2)) (by decide +kernel) (tg_one 7) ts_nil (e_ix (e_var 6) (e_var 7))) a_nil)) (e_var 3))) (e_var 5))))))))⟩
noncomputable def g_moments : List W → M W := bodyM 8 4 r_moments.1
theorem kr_moments {m : Mo} {A : Ad} (G : Glb m A) : FnM m (tab A) 6 A.f_moments 4 g_moments := by
  obtain ⟨fd, F, b⟩ := G.F_moments
  exact fn_mk F ⟨rfl, rfl, rfl, by decide +kernel, rfl, by decide +kernel, by decide +kernel⟩ b (r_moments.2 G)
theorem k_moments {m : Mo} {A : Ad} (G : Glb m A) : FnM m (tab A) 6 A.f_moments 4 g_moments := kr_moments G
set_option maxHeartbeats 4000000 in
noncomputable def r__law_taken : { fb : Slots → M Fl // ∀ {m : Mo} {A : Ad} (_ : Glb m A), SSs m (tab A) 0 true true (defScope s__law_taken) ["_law_row", "_law_many", "_law_found", "_law_cell"] ["_law_row", "_law_many", "_law_found", "_law_cell"] (defBody s__law_taken) fb } := ⟨_, fun {m A} G =>
  (ss_cons (s_if (t_cmp c_gt (e_ix (e_var 0) e_int) e_int)
      (ss_cons (s_set 2 (e_bin o_mod (e_bty n_int G.n_int (a_cons (e_ix (e_var 0) e_int) a_nil) (by decide +kernel)) (e_var 1)))
    (ss_cons (s_asg (e_bin o_fdiv (e_ix (e_var 0) e_int) (e_var 1)) (g_ix (e_var 0) e_int))
    (ss_one (s_ret (e_var 2)))))
      ss_nil)
    (ss_cons (s_asg (e_bin o_add (e_ix (e_var 0) e_int) e_int) (g_ix (e_var 0) e_int))
    (ss_cons (s_if (t_cmp c_gt (e_ix (e_var 0) e_int) (e_blt n_len G.n_len (a_cons (e_ix (e_var 0) e_int) a_nil) PySem.boot_len))
      (ss_cons (s_asg (e_bin o_mod (e_bty n_int G.n_int (a_cons (e_bin o_add (e_bin o_mul (e_ix (e_var 0) e_int) e_int) e_int) a_nil) (by decide +kernel)) e_int) (g_ix (e_var 0) e_int))
    (ss_one (s_ret (e_bin o_mod (e_bty n_int G.n_int (a_cons (e_bin o_fdiv (e_ix (e_var 0) e_int) e_int) a_nil) (by decide +kernel)) (e_var 1)))))
      ss_nil)
    (ss_cons (s_set 3 (e_ix (e_ix (e_var 0) e_int) (e_bin o_sub (e_ix (e_var 0) e_int) e_int)))
    (ss_cons (s_asg (e_bin o_mod (e_bty n_int G.n_int (a_cons (e_bin o_add (e_bin o_add (e_bin o_mul (e_ix (e_var 0) e_int) e_int) (e_var 3)) e_int) a_nil) (by decide +kernel)) e_int) (g_ix (e_var 0) e_int))
    (ss_cons (s_if (t_cmp c_ge (e_var 3) (e_bin o_pow e_int e_int))
      (ss_one (s_asg (e_bin o_fdiv (e_var 3) (e_var 1)) (g_ix (e_var 0) e_int)))
      ss_nil)
    (ss_one (s_ret (e_bin o_mod (e_bty n_int G.n_int (a_cons (e_var 3) a_nil) (by decide +kernel)) (e_var 1))))))))))⟩
noncomputable def g__law_taken : List W → M W := bodyM 4 2 r__law_taken.1
theorem kr__law_taken {m : Mo} {A : Ad} (G : Glb m A) : FnM m (tab A) 1 A.f__law_taken 2 g__law_taken := by
  obtain ⟨fd, F, b⟩ := G.F__law_taken
  exact fn_mk F ⟨rfl, rfl, rfl, by decide +kernel, rfl, by decide +kernel, by decide +kernel⟩ b (r__law_taken.2 G)
theorem k__law_taken {m : Mo} {A : Ad} (G : Glb m A) : FnM m (tab A) 1 A.f__law_taken 2 g__law_taken := kr__law_taken G
set_option maxHeartbeats 4000000 in
noncomputable def r__law_bath : { fb : Slots → M Fl // ∀ {m : Mo} {A : Ad} (_ : Glb m A), SSs m (tab A) 4 true true (defScope s__law_bath) ["_law_row", "_law_most", "_law_width", "_law_height", "_law_cell"] ["_law_row", "_law_most", "_law_width", "_law_height", "_law_cell"] (defBody s__law_bath) fb } := ⟨_, fun {m A} G =>
  (ss_cons (s_par2 2 3 rfl (a_cons (e_bin o_add e_int (e_call rfl ((k__law_taken G).mono (by decide)) G.g__law_taken (a_cons (e_var 0) (a_cons e_int a_nil)))) (a_cons (e_bin o_add e_int (e_call rfl ((k__law_taken G).mono (by decide)) G.g__law_taken (a_cons (e_var 0) (a_cons (e_var 1) a_nil)))) a_nil)) (hw := (fun X g => by rw [env_sc g]; rfl)))
    (ss_one (s_ret (e_make true 5 rfl G.mk_Bath (k_BathD_initD G) G.g_Bath (a_cons (e_var 2) (a_cons (e_var 3) (a_cons (e_bm PySem.F.plainAttrs_str PySem.F.slot_str_join PySem.F.type_str_join m_join e_str (a_cons (e_lc [("_law_cell", 4)] rfl (it_rng1 G.n_range (a_cons (e_bin o_mul (e_var 2) (e_var 3)) a_nil)) (by decide +kernel) (tg_one 4) ts_nil (e_ix e_str (e_call rfl ((k__law_taken G).mono (by decide)) G.g__law_taken (a_cons (e_var 0) (a_cons e_int a_nil))))) a_nil)) a_nil)))))))⟩
noncomputable def g__law_bath : List W → M W := bodyM 5 2 r__law_bath.1
theorem kr__law_bath {m : Mo} {A : Ad} (G : Glb m A) : FnM m (tab A) 5 A.f__law_bath 2 g__law_bath := by
  obtain ⟨fd, F, b⟩ := G.F__law_bath
  exact fn_mk F ⟨rfl, rfl, rfl, by decide +kernel, rfl, by decide +kernel, by decide +kernel⟩ b (r__law_bath.2 G)
theorem k__law_bath {m : Mo} {A : Ad} (G : Glb m A) : FnM m (tab A) 5 A.f__law_bath 2 g__law_bath := kr__law_bath G
set_option maxHeartbeats 4000000 in
noncomputable def r__law_strides : { fb : Slots → M Fl // ∀ {m : Mo} {A : Ad} (_ : Glb m A), SSs m (tab A) 1 true true (defScope s__law_strides) ["_law_row", "_law_count", "_law_k"] ["_law_row", "_law_count", "_law_k"] (defBody s__law_strides) fb } := ⟨_, fun {m A} G =>
  (ss_one (s_ret (e_bty n_tuple G.n_tuple (a_cons (e_lc [("_law_k", 2)] rfl (it_rng1 G.n_range (a_cons (e_var 1) a_nil)) (by decide +kernel) (tg_one 2) ts_nil (e_bin o_sub (e_call rfl ((k__law_taken G).mono (by decide)) G.g__law_taken (a_cons (e_var 0) (a_cons e_int a_nil))) e_int)) a_nil) (by decide +kernel))))⟩
noncomputable def g__law_strides : List W → M W := bodyM 3 2 r__law_strides.1
theorem kr__law_strides {m : Mo} {A : Ad} (G : Glb m A) : FnM m (tab A) 2 A.f__law_strides 2 g__law_strides := by
  obtain ⟨fd, F, b⟩ := G.F__law_strides
  exact fn_mk F ⟨rfl, rfl, rfl, by decide +kernel, rfl, by decide +kernel, by decide +kernel⟩ b (r__law_strides.2 G)
theorem k__law_strides {m : Mo} {A : Ad} (G : Glb m A) : FnM m (tab A) 2 A.f__law_strides 2 g__law_strides := kr__law_strides G
set_option maxHeartbeats 4000000 in
noncomputable def r__law_some : { fb : Slots → M Fl // ∀ {m : Mo} {A : Ad} (_ : Glb m A), SSs m (tab A) 1 true true (defScope s__law_some) ["_law_row", "_law_size", "_law_found", "_law_cell"] ["_law_row", "_law_size", "_law_found", "_law_cell"] (defBody s__law_some) fb } := ⟨_, fun {m A} G =>
  (ss_cons (s_setLc [("_law_cell", 3)] 2 rfl (it_rng1 G.n_range (a_cons (e_var 1) a_nil)) (by decide +kernel) (tg_one 3) (ts_one (t_cmp c_eq (e_call rfl ((k__law_taken G).mono (by decide)) G.g__law_taken (a_cons (e_var 0) (a_cons e_int a_nil))) e_int)) (e_var 3))
    (ss_one (s_ret (e_if (t_cmp c_ne (e_var 2) (e_lst a_nil)) (e_bty n_tuple G.n_tuple (a_cons (e_var 2) a_nil) (by decide +kernel)) (e_tup (a_cons (e_call rfl ((k__law_taken G).mono (by decide)) G.g__law_taken (a_cons (e_var 0) (a_cons (e_var 1) a_nil))) a_nil))))))⟩
noncomputable def g__law_some : List W → M W := bodyM 4 2 r__law_some.1
theorem kr__law_some {m : Mo} {A : Ad} (G : Glb m A) : FnM m (tab A) 2 A.f__law_some 2 g__law_some := by
  obtain ⟨fd, F, b⟩ := G.F__law_some
  exact fn_mk F ⟨rfl, rfl, rfl, by decide +kernel, rfl, by decide +kernel, by decide +kernel⟩ b (r__law_some.2 G)
theorem k__law_some {m : Mo} {A : Ad} (G : Glb m A) : FnM m (tab A) 2 A.f__law_some 2 g__law_some := kr__law_some G
set_option maxHeartbeats 4000000 in
noncomputable def r__law_deed : { fb : Slots → M Fl // ∀ {m : Mo} {A : Ad} (_ : Glb m A), SSs m (tab A) 2 true true (defScope s__law_deed) ["_law_row", "_law_bath_here", "_law_pick"] ["_law_row", "_law_bath_here", "_law_pick"] (defBody s__law_deed) fb } := ⟨_, fun {m A} G =>
  (ss_cons (s_set 2 (e_call rfl ((k__law_taken G).mono (by decide)) G.g__law_taken (a_cons (e_var 0) (a_cons e_int a_nil))))
    (ss_cons (s_if (t_cmp c_lt (e_var 2) e_int)
      (ss_one (s_ret (e_tup (a_cons e_str (a_cons (e_call rfl ((k__law_taken G).mono (by decide)) G.g__law_taken (a_cons (e_var 0) (a_cons (e_blt (n_lenOwn rfl G.len_Bath (k_BathD_lenD G)) G.n_len (a_cons (e_var 1) a_nil) PySem.boot_len) a_nil))) (a_cons (e_ix e_str (e_call rfl ((k__law_taken G).mono (by decide)) G.g__law_taken (a_cons (e_var 0) (a_cons e_int a_nil)))) a_nil))))))
      ss_nil)
    (ss_cons (s_if (t_cmp c_eq (e_var 2) e_int)
      (ss_one (s_ret (e_tup (a_cons e_str (a_cons (e_call rfl ((k__law_strides G).mono (by decide)) G.g__law_strides (a_cons (e_var 0) (a_cons (e_propS rfl G.p_Bath_height (k_Bath_height G) calm_Bath_height (e_var 1)) a_nil))) a_nil)))))
      ss_nil)
    (ss_cons (s_if (t_cmp c_eq (e_var 2) e_int)
      (ss_one (s_ret (e_tup (a_cons e_str (a_cons (e_call rfl ((k__law_strides G).mono (by decide)) G.g__law_strides (a_cons (e_var 0) (a_cons (e_propS rfl G.p_Bath_width (k_Bath_width G) calm_Bath_width (e_var 1)) a_nil))) a_nil)))))
      ss_nil)
    (ss_one (s_ret (e_tup (a_cons e_str (a_cons (e_call rfl ((k__law_some G).mono (by decide)) G.g__law_some (a_cons (e_var 0) (a_cons (e_blt (n_lenOwn rfl G.len_Bath (k_BathD_lenD G)) G.n_len (a_cons (e_var 1) a_nil) PySem.boot_len) a_nil))) a_nil)))))))))⟩
noncomputable def g__law_deed : List W → M W := bodyM 3 2 r__law_deed.1
theorem kr__law_deed {m : Mo} {A : Ad} (G : Glb m A) : FnM m (tab A) 3 A.f__law_deed 2 g__law_deed := by
  obtain ⟨fd, F, b⟩ := G.F__law_deed
  exact fn_mk F ⟨rfl, rfl, rfl, by decide +kernel, rfl, by decide +kernel, by decide +kernel⟩ b (r__law_deed.2 G)
theorem k__law_deed {m : Mo} {A : Ad} (G : Glb m A) : FnM m (tab A) 3 A.f__law_deed 2 g__law_deed := kr__law_deed G
set_option maxHeartbeats 4000000 in
noncomputable def r__law_behind : { fb : Slots → M Fl // ∀ {m : Mo} {A : Ad} (_ : Glb m A), SSs m (tab A) 2 true true (defScope s__law_behind) ["_law_bath_here", "_law_things", "_law_deed_here", "_law_fresh", "_law_width", "_law_height", "_law_found", "_law_cell", "_law_across", "_law_down", "_law_there"] ["_law_bath_here", "_law_things", "_law_deed_here", "_law_fresh", "_law_width", "_law_height", "_law_found", "_law_cell", "_law_across", "_law_down", "_law_there"] (defBody s__law_behind) fb } := ⟨_, fun {m A} G =>
  (ss_cons (s_par3 4 5 6 rfl (a_cons (e_propS rfl G.p_Bath_width (k_Bath_width G) calm_Bath_width (e_var 0)) (a_cons (e_propS rfl G.p_Bath_height (k_Bath_height G) calm_Bath_height (e_var 0)) (a_cons (e_bty (n_list rfl) G.n_list (a_cons (e_var 1) a_nil) (by decide +kernel)) a_nil))) (hw := (fun X g => by rw [env_sc g]; rfl)))
    (ss_cons (s_for rfl (it_rng1 G.n_range (a_cons (e_bin o_mul (e_var 4) (e_var 5)) a_nil)) (g_name 7)
      (ss_cons (s_par2 8 9 rfl (a_cons (e_bin o_mod (e_bty n_int G.n_int (a_cons (e_var 7) a_nil) (by decide +kernel)) (e_var 4)) (a_cons (e_bin o_fdiv (e_bty n_int G.n_int (a_cons (e_var 7) a_nil) (by decide +kernel)) (e_var 4)) a_nil)) (hw := (fun X g => by rw [env_sc g]; rfl)))
    (ss_one (s_if (t_cmp c_eq (e_ix (e_var 2) e_int) e_str)
      (ss_cons (s_set 10 (e_bin o_mod (e_bty n_int G.n_int (a_cons (e_bin o_sub (e_var 8) (e_ix (e_ix (e_var 2) e_int) (e_var 9))) a_nil) (by decide +kernel)) (e_var 4)))
    (ss_one (s_asg (e_ix (e_var 1) (e_bin o_add (e_bin o_mul (e_var 9) (e_var 4)) (e_var 10))) (g_ix (e_var 6) (e_var 7)))))
      (ss_one (s_if (t_cmp c_eq (e_ix (e_var 2) e_int) e_str)
      (ss_cons (s_set 10 (e_bin o_mod (e_bty n_int G.n_int (a_cons (e_bin o_sub (e_var 9) (e_ix (e_ix (e_var 2) e_int) (e_var 8))) a_nil) (by decide +kernel)) (e_var 5)))
    (ss_one (s_asg (e_ix (e_var 1) (e_bin o_add (e_bin o_mul (e_var 10) (e_var 4)) (e_var 8))) (g_ix (e_var 6) (e_var 7)))))
      (ss_one (s_if (t_cmp c_eq (e_ix (e_var 2) e_int) e_str)
      (ss_one (s_asg (e_if (t_cmp c_in (e_var 7) (e_ix (e_var 2) e_int)) (e_var 3) (e_ix (e_var 1) (e_var 7))) (g_ix (e_var 6) (e_var 7))))
      (ss_one (s_if (t_cmp c_eq (e_var 7) (e_ix (e_var 2) e_int))
      (ss_one (s_asg (e_var 3) (g_ix (e_var 6) (e_var 7))))
      (ss_one (s_if (t_cmp c_eq (e_var 9) (e_bin o_fdiv (e_bty n_int G.n_int (a_cons (e_ix (e_var 2) e_int) a_nil) (by decide +kernel)) (e_var 4)))
      (ss_one (s_asg (e_ix (e_var 1) (e_if (t_cmp c_lt (e_var 7) (e_ix (e_var 2) e_int)) (e_bin o_add (e_var 7) e_int) (e_bin o_sub (e_var 7) e_int))) (g_ix (e_var 6) (e_var 7))))
      (ss_one (s_if (t_cmp c_eq (e_var 8) (e_bin o_mod (e_bty n_int G.n_int (a_cons (e_ix (e_var 2) e_int) a_nil) (by decide +kernel)) (e_var 4)))
      (ss_one (s_asg (e_ix (e_var 1) (e_if (t_cmp c_lt (e_var 7) (e_ix (e_var 2) e_int)) (e_bin o_add (e_var 7) (e_var 4)) (e_bin o_sub (e_var 7) (e_var 4)))) (g_ix (e_var 6) (e_var 7))))
      ss_nil))))))))))))))
    (ss_one (s_ret (e_var 6)))))⟩
noncomputable def g__law_behind : List W → M W := bodyM 11 4 r__law_behind.1
theorem kr__law_behind {m : Mo} {A : Ad} (G : Glb m A) : FnM m (tab A) 3 A.f__law_behind 4 g__law_behind := by
  obtain ⟨fd, F, b⟩ := G.F__law_behind
  exact fn_mk F ⟨rfl, rfl, rfl, by decide +kernel, rfl, by decide +kernel, by decide +kernel⟩ b (r__law_behind.2 G)
theorem k__law_behind {m : Mo} {A : Ad} (G : Glb m A) : FnM m (tab A) 3 A.f__law_behind 4 g__law_behind := kr__law_behind G
set_option maxHeartbeats 4000000 in
noncomputable def r__law_rows : { fb : Slots → M Fl // ∀ {m : Mo} {A : Ad} (_ : Glb m A), SSs m (tab A) 3 true true (defScope s__law_rows) ["_law_bath_here", "_law_recipe", "_law_found", "_law_deed_here", "_law_fresh"] ["_law_bath_here", "_law_recipe", "_law_found", "_law_deed_here", "_law_fresh"] (defBody s__law_rows) fb } := ⟨_, fun {m A} G =>
  (ss_cons (s_set 2 (e_lst (a_cons (e_bty (n_list rfl) G.n_list (a_cons (e_propS rfl G.p_Bath_cells (k_Bath_cells G) calm_Bath_cells (e_var 0)) a_nil) (by decide +kernel)) a_nil)))
    (ss_cons (s_for rfl (it_val (e_var 1)) (g_name 3)
      (ss_cons (s_set 4 (e_if (t_cmp c_eq (e_ix (e_var 3) e_int) e_str) (e_ix (e_var 3) e_int) e_str))
    (ss_one (s_expr (e_bm PySem.F.plainAttrs_list PySem.F.slot_list_append PySem.F.type_list_append m_append (e_var 2) (a_cons (e_call rfl ((k__law_behind G).mono (by decide)) G.g__law_behind (a_cons (e_var 0) (a_cons (e_ix (e_var 2) (e_un o_neg e_int)) (a_cons (e_var 3) (a_cons (e_var 4) a_nil))))) a_nil))))))
    (ss_one (s_ret (e_var 2)))))⟩
noncomputable def g__law_rows : List W → M W := bodyM 5 2 r__law_rows.1
theorem kr__law_rows {m : Mo} {A : Ad} (G : Glb m A) : FnM m (tab A) 4 A.f__law_rows 2 g__law_rows := by
  obtain ⟨fd, F, b⟩ := G.F__law_rows
  exact fn_mk F ⟨rfl, rfl, rfl, by decide +kernel, rfl, by decide +kernel, by decide +kernel⟩ b (r__law_rows.2 G)
theorem k__law_rows {m : Mo} {A : Ad} (G : Glb m A) : FnM m (tab A) 4 A.f__law_rows 2 g__law_rows := kr__law_rows G
set_option maxHeartbeats 4000000 in
noncomputable def r__law_small : { fb : Slots → M Fl // ∀ {m : Mo} {A : Ad} (_ : Glb m A), SSs m (tab A) 5 true true (defScope s__law_small) ["_law_row", "_law_bath_here"] ["_law_row", "_law_bath_here"] (defBody s__law_small) fb } := ⟨_, fun {m A} G =>
  (ss_cons (s_set 1 (e_call rfl ((k__law_bath G).mono (by decide)) G.g__law_bath (a_cons (e_var 0) (a_cons e_int a_nil))))
    (ss_one (s_ret (e_if (t_cmp c_lt (e_blt (n_lenOwn rfl G.len_Bath (k_BathD_lenD G)) G.n_len (a_cons (e_var 1) a_nil) PySem.boot_len) e_int) (e_var 1) (e_make true 5 rfl G.mk_Bath (k_BathD_initD G) G.g_Bath (a_cons e_int (a_cons e_int (a_cons (e_slice (e_propS rfl G.p_Bath_cells (k_Bath_cells G) calm_Bath_cells (e_var 1)) o_no (o_some e_int)) a_nil))))))))⟩
noncomputable def g__law_small : List W → M W := bodyM 2 1 r__law_small.1
theorem kr__law_small {m : Mo} {A : Ad} (G : Glb m A) : FnM m (tab A) 6 A.f__law_small 1 g__law_small := by
  obtain ⟨fd, F, b⟩ := G.F__law_small
  exact fn_mk F ⟨rfl, rfl, rfl, by decide +kernel, rfl, by decide +kernel, by decide +kernel⟩ b (r__law_small.2 G)
theorem k__law_small {m : Mo} {A : Ad} (G : Glb m A) : FnM m (tab A) 6 A.f__law_small 1 g__law_small := kr__law_small G
set_option maxHeartbeats 4000000 in
noncomputable def r__law_subsets : { fb : Slots → M Fl // ∀ {m : Mo} {A : Ad} (_ : Glb m A), SSs m (tab A) 0 true true (defScope s__law_subsets) ["_law_size", "_law_found", "_law_cell", "_law_some_here"] ["_law_size", "_law_found", "_law_cell", "_law_some_here"] (defBody s__law_subsets) fb } := ⟨_, fun {m A} G =>
  (ss_cons (s_set 1 (e_lst (a_cons (e_tup a_nil) a_nil)))
    (ss_cons (s_for rfl (it_rng1 G.n_range (a_cons (e_var 0) a_nil)) (g_name 2)
      (ss_one (s_set 1 (e_bin o_add (e_var 1) (e_lc [("_law_some_here", 3)] rfl (it_val (e_var 1)) (by decide +kernel) (tg_one 3) ts_nil (e_bin o_add (e_var 3) (e_tup (a_cons (e_var 2) a_nil))))))))
    (ss_one (s_ret (e_var 1)))))⟩
noncomputable def g__law_subsets : List W → M W := bodyM 4 1 r__law_subsets.1
theorem kr__law_subsets {m : Mo} {A : Ad} (G : Glb m A) : FnM m (tab A) 1 A.f__law_subsets 1 g__law_subsets := by
  obtain ⟨fd, F, b⟩ := G.F__law_subsets
  exact fn_mk F ⟨rfl, rfl, rfl, by decide +kernel, rfl, by decide +kernel, by decide +kernel⟩ b (r__law_subsets.2 G)
theorem k__law_subsets {m : Mo} {A : Ad} (G : Glb m A) : FnM m (tab A) 1 A.f__law_subsets 1 g__law_subsets := kr__law_subsets G
set_option maxHeartbeats 4000000 in
noncomputable def r_law : { fb : Slots → M Fl // ∀ {m : Mo} {A : Ad} (_ : Glb m A), SSs m (tab A) 6 true true (defScope s_law) ["_law_script", "_law_row", "_law_turn", "_law_bath_here", "_law_text", "_law_k", "_law_some_here", "_law_one", "_law_cell", "_law_wide", "_law_recipe", "_law_cells", "_law_rows_here", "_law_spelled", "_law_signs"] ["_law_script", "_law_row", "_law_turn", "_law_bath_here", "_law_text", "_law_k", "_law_some_here", "_law_one", "_law_cell", "_law_wide", "_law_recipe", "_law_cells", "_law_rows_here", "_law_spelled", "_law_signs"] (defBody s_law) fb } := ⟨_, fun {m A} G =>
  (ss_cons (s_set 1 (e_lst (a_cons (e_var 0) (a_cons e_int (a_cons e_int (a_cons e_int a_nil))))))
    (ss_cons (s_for rfl (it_rng1 G.n_range (a_cons e_int a_nil)) (g_name 2)
      (ss_cons (s_set 3 (e_call rfl ((k__law_small G).mono (by decide)) G.g__law_small (a_cons (e_var 1) a_nil)))
    (ss_cons (s_set 4 (e_bm PySem.F.plainAttrs_str PySem.F.slot_str_join PySem.F.type_str_join m_join e_str (a_cons (e_lc [("_law_k", 5)] rfl (it_rng1 G.n_range (a_cons (e_bin o_add e_int (e_call rfl ((k__law_taken G).mono (by decide)) G.g__law_taken (a_cons (e_var 1) (a_cons e_int a_nil)))) a_nil)) (by decide +kernel) (tg_one 5) ts_nil (e_ix e_str (e_call rfl ((k__law_taken G).mono (by decide)) G.g__law_taken (a_cons (e_var 1) (a_cons e_int a_nil))))) a_nil)))
    (ss_cons (s_setLc [("_law_one", 7)] 6 rfl (it_val (e_call rfl ((k__law_subsets G).mono (by decide)) G.g__law_subsets (a_cons (e_blt (n_lenOwn rfl G.len_Bath (k_BathD_lenD G)) G.n_len (a_cons (e_var 3) a_nil) PySem.boot_len) a_nil))) (by decide +kernel) (tg_one 7) (ts_one (t_cmp c_eq (e_bm PySem.F.plainAttrs_str PySem.F.slot_str_join PySem.F.type_str_join m_join e_str (a_cons (e_lc [("_law_cell", 8)] rfl (it_val (e_var 7)) (by decide +kernel) (tg_one 8) ts_nil (e_ix (e_propS rfl G.p_Bath_cells (k_Bath_cells G) calm_Bath_cells (e_var 3)) (e_var 8))) a_nil)) (e_var 4))) (e_var 7))
    (ss_cons (s_if (t_w (w_or (t_cmp c_ne (e_call rfl ((k_paper_count G).mono (by decide)) G.g_paper_count (a_cons (e_var 3) (a_cons (e_var 4) a_nil))) (e_blt n_len G.n_len (a_cons (e_var 6) a_nil) PySem.boot_len)) (w_or1 (t_cmp c_ne (e_call rfl ((k_first_paper G).mono (by decide)) G.g_first_paper (a_cons (e_var 3) (a_cons (e_var 4) a_nil))) (e_if (t_cmp c_ne (e_var 6) (e_lst a_nil)) (e_blt (n_min rfl) G.n_min (a_cons (e_var 6) a_nil) (by decide +kernel)) e_non)))))
      (ss_one (s_ret e_bl))
      ss_nil)
    (ss_cons (s_set 9 (e_call rfl ((k__law_bath G).mono (by decide)) G.g__law_bath (a_cons (e_var 1) (a_cons e_int a_nil))))
    (ss_cons (s_set 10 (e_bty n_tuple G.n_tuple (a_cons (e_lc [("_law_k", 5)] rfl (it_rng1 G.n_range (a_cons (e_call rfl ((k__law_taken G).mono (by decide)) G.g__law_taken (a_cons (e_var 1) (a_cons e_int a_nil))) a_nil)) (by decide +kernel) (tg_one 5) ts_nil (e_call rfl ((k__law_deed G).mono (by decide)) G.g__law_deed (a_cons (e_var 1) (a_cons (e_var 9) a_nil)))) a_nil) (by decide +kernel)))
    (ss_cons (s_asg (e_tup (a_cons (e_call rfl ((k__law_some G).mono (by decide)) G.g__law_some (a_cons (e_var 1) (a_cons (e_blt (n_lenOwn rfl G.len_Bath (k_BathD_lenD G)) G.n_len (a_cons (e_var 9) a_nil) PySem.boot_len) a_nil))) (a_cons (e_call rfl ((k__law_rows G).mono (by decide)) G.g__law_rows (a_cons (e_var 9) (a_cons (e_var 10) a_nil))) a_nil))) (g_tup (n := 2) rfl (gs_cons (g_name 11) (gs_cons (g_name 12) gs_nil))) (hw := fun X g => by rw [env_sc g]; rfl))
    (ss_cons (s_set 13 (e_lc [("_law_signs", 14)] rfl (it_val (e_var 12)) (by decide +kernel) (tg_one 14) ts_nil (e_bm PySem.F.plainAttrs_str PySem.F.slot_str_join PySem.F.type_str_join m_join e_str (a_cons (e_lc [("_law_cell", 8)] rfl (it_val (e_var 11)) (by decide +kernel) (tg_one 8) ts_nil (e_ix (e_var 14) (e_var 8))) a_nil))) (hs := fun X g => by rw [env_sc g]; rfl))
    (ss_cons (s_set 4 (e_if (t_cmp c_gt (e_call rfl ((k__law_taken G).mono (by decide)) G.g__law_taken (a_cons (e_var 1) (a_cons e_int a_nil))) e_int) (e_ix (e_var 13) (e_call rfl ((k__law_taken G).mono (by decide)) G.g__law_taken (a_cons (e_var 1) (a_cons (e_blt n_len G.n_len (a_cons (e_var 13) a_nil) PySem.boot_len) a_nil)))) (e_bin o_mulS e_str (e_blt n_len G.n_len (a_cons (e_var 11) a_nil) PySem.boot_len))))
    (ss_one (s_if (t_cmp c_ne (e_call rfl ((k_moments G).mono (by decide)) G.g_moments (a_cons (e_var 9) (a_cons (e_var 10) (a_cons (e_var 11) (a_cons (e_var 4) a_nil))))) (e_lc [("_law_k", 5)] rfl (it_rng1 G.n_range (a_cons (e_blt n_len G.n_len (a_cons (e_var 13) a_nil) PySem.boot_len) a_nil)) (by decide +kernel) (tg_one 5) (ts_one (t_cmp c_eq (e_ix (e_var 13) (e_var 5)) (e_var 4))) (e_var 5)))
      (ss_one (s_ret e_bl))
      ss_nil))))))))))))
    (ss_one (s_ret (e_cmp c_eq (e_call rfl ((k_paper_count G).mono (by decide)) G.g_paper_count (a_cons (e_make true 5 rfl G.mk_Bath (k_BathD_initD G) G.g_Bath (a_cons e_int (a_cons e_int (a_cons (e_bin o_mulS e_str e_int) a_nil)))) (a_cons (e_bin o_mulS e_str e_int) a_nil))) e_int)))))⟩
noncomputable def g_law : List W → M W := bodyM 15 1 r_law.1
theorem kr_law {m : Mo} {A : Ad} (G : Glb m A) : FnM m (tab A) 7 A.f_law 1 g_law := by
  obtain ⟨fd, F, b⟩ := G.F_law
  exact fn_mk F ⟨rfl, rfl, rfl, by decide +kernel, rfl, by decide +kernel, by decide +kernel⟩ b (r_law.2 G)
theorem k_law {m : Mo} {A : Ad} (G : Glb m A) : FnM m (tab A) 7 A.f_law 1 g_law := kr_law G

end Lw

namespace Lw
open PySem L2 RP
section
variable {S : Sto} {r sc : Nat} {i a b : Int} {v : W}
theorem row0 (h : S[r]? = some (.lst [.ref sc, .int i, .int a, .int b])) : ixM (.ref r) (.int 0) S = .ok (.ref sc) S := by rw [ixM_r 0 (seq_lst h)]; rfl
theorem row1 (h : S[r]? = some (.lst [.ref sc, .int i, .int a, .int b])) : ixM (.ref r) (.int 1) S = .ok (.int i) S := by rw [ixM_r 1 (seq_lst h)]; rfl
theorem row2 (h : S[r]? = some (.lst [.ref sc, .int i, .int a, .int b])) : ixM (.ref r) (.int 2) S = .ok (.int a) S := by rw [ixM_r 2 (seq_lst h)]; rfl
theorem row3 (h : S[r]? = some (.lst [.ref sc, .int i, .int a, .int b])) : ixM (.ref r) (.int 3) S = .ok (.int b) S := by rw [ixM_r 3 (seq_lst h)]; rfl
theorem put1 (h : S[r]? = some (.lst [.ref sc, .int i, .int a, .int b])) : setIxM (.ref r) (.int 1) v S = .ok () (S.set r (.lst [.ref sc, v, .int a, .int b])) := setIx_l (j := 1) h rfl
theorem put2 (h : S[r]? = some (.lst [.ref sc, .int i, .int a, .int b])) : setIxM (.ref r) (.int 2) v S = .ok () (S.set r (.lst [.ref sc, .int i, v, .int b])) := setIx_l (j := 2) h rfl
theorem put3 (h : S[r]? = some (.lst [.ref sc, .int i, .int a, .int b])) : setIxM (.ref r) (.int 3) v S = .ok () (S.set r (.lst [.ref sc, .int i, .int a, v])) := setIx_l (j := 3) h rfl
theorem set_get {o u : Ob} (h : S[r]? = some o) : (S.set r u)[r]? = some u := List.getElem?_set_self (List.getElem?_eq_some_iff.mp h).1
theorem set_get2 {o u : Ob} {j : Nat} (h : S[j]? = some o) (n : j ≠ r) : (S.set r u)[j]? = some o := by rw [List.getElem?_set_ne (Ne.symm n)]; exact h
end
theorem taken_ok {S : Sto} {r : Nat} {m : Int} (h : Row S r) (hm : 0 < m) (hm2 : m < 1152921504606846976) :
    Ho (g__law_taken [.ref r, .int m] S) (fun w S' => ∃ n, w = .int n ∧ 0 ≤ n ∧ n < m ∧ Row S' r ∧ Fr r S S' ∧ S'.length = S.length) noX := by
  obtain ⟨sc, ns, i, a, b, h1, h2, h3, h4⟩ := h
  have md : ∀ x : Int, 0 ≤ x % m ∧ x % m < m := fun x => ⟨Int.emod_nonneg _ (by omega), Int.emod_lt_of_pos _ hm⟩
  unfold g__law_taken
  by_cases hb : 0 < b
  · simp only [ho_ok, ho_ret, ho_bd, ho_bdI, ho_bdO, hos_nx, hos_rt, hos_bk, hos_ct, hos_onx, hos_ort, hos_exS, hos_exT, hos_exA, hos_exI, nxt_nx, nxt_rt, nxt_bk, nxt_ct, hos_seq, hos_asg, fin_nx, fin_rt, ho_body1, ho_body2, ho_body3, ho_body4, ho_meth, ho_bm, ho_prop, ho_if, hos_if, ho_and, ho_or, ho_andT, ho_orT, ho_ite, ho_chain, ret_d, ngW_b, blM_b, truM_b, getSl_0, getSl_s, lstM_d, tupM_d, add_ii, add_ss, sub_ii, mul_ii, fdiv_ii, mod_ii, pow_ii, lt_ii, le_ii, gt_ii, ge_ii, eq_ii, ne_ii, eq_ss, ne_ss, intM_i, lenM_t, ixM_t, seqV_s, seqV_t, partM_i, in_1, List.length_cons, List.length_nil, List.length_singleton, List.map_cons, List.map_nil, List.cons_append, List.nil_append, List.set_cons_zero, List.set_cons_succ, List.replicate_succ, List.replicate_zero, List.append_nil, Nat.reduceAdd, Nat.reduceSub, Nat.zero_add, Nat.sub_self, Nat.reduceEqDiff, Nat.reduceLeDiff, if_true, if_false, ite_true, ite_false, reduceIte, decide_true, decide_false, Bool.not_true, Bool.not_false, true_and, and_true, r__law_taken, row3 h1, put3 h1, hb, hm, hm2]
    exact ⟨_, rfl, (md _).1, (md _).2, ⟨sc, ns, i, a, _, set_get h1, h2, set_get2 h3 h2, h4⟩, Fr.set, List.length_set⟩
  · have g1 := set_get (u := .lst [.ref sc, .int (i + 1), .int a, .int b]) h1
    have g3 := set_get2 (u := .lst [.ref sc, .int (i + 1), .int a, .int b]) h3 h2
    have e0 : seqOf (S.set r (.lst [.ref sc, .int (i + 1), .int a, .int b])) sc = some (ns.map W.int) := seq_scr g3
    have sm : (small64 a || small64 48271) = true := by simp [RP.small64]
    by_cases hl : ((ns.map W.int).length : Int) < i + 1
    · have f1 := set_get (u := .lst [.ref sc, .int (i + 1), .int ((a * 48271 + 11) % 2147483647), .int b]) g1
      have f3 := set_get2 (u := .lst [.ref sc, .int (i + 1), .int ((a * 48271 + 11) % 2147483647), .int b]) g3 h2
      simp only [ho_ok, ho_ret, ho_bd, ho_bdI, ho_bdO, hos_nx, hos_rt, hos_bk, hos_ct, hos_onx, hos_ort, hos_exS, hos_exT, hos_exA, hos_exI, nxt_nx, nxt_rt, nxt_bk, nxt_ct, hos_seq, hos_asg, fin_nx, fin_rt, ho_body1, ho_body2, ho_body3, ho_body4, ho_meth, ho_bm, ho_prop, ho_if, hos_if, ho_and, ho_or, ho_andT, ho_orT, ho_ite, ho_chain, ret_d, ngW_b, blM_b, truM_b, getSl_0, getSl_s, lstM_d, tupM_d, add_ii, add_ss, sub_ii, mul_ii, fdiv_ii, mod_ii, pow_ii, lt_ii, le_ii, gt_ii, ge_ii, eq_ii, ne_ii, eq_ss, ne_ss, intM_i, lenM_t, ixM_t, seqV_s, seqV_t, partM_i, in_1, List.length_cons, List.length_nil, List.length_singleton, List.map_cons, List.map_nil, List.cons_append, List.nil_append, List.set_cons_zero, List.set_cons_succ, List.replicate_succ, List.replicate_zero, List.append_nil, Nat.reduceAdd, Nat.reduceSub, Nat.zero_add, Nat.sub_self, Nat.reduceEqDiff, Nat.reduceLeDiff, if_true, if_false, ite_true, ite_false, reduceIte, decide_true, decide_false, Bool.not_true, Bool.not_false, true_and, and_true, r__law_taken, row3 h1, row1 h1, put1 h1, row0 g1, row1 g1, row2 g1, put2 g1, lenM_r e0, hb, hm, hm2, hl, sm, row2 f1]
      refine ⟨by omega, by omega, _, rfl, (md _).1, (md _).2, ⟨sc, ns, _, _, _, f1, h2, f3, by omega⟩, Fr.set.trans Fr.set, by simp⟩
    · have hn : (i.toNat) < ns.length := by
        rw [List.length_map] at hl
        omega
      have ei : atI (ns.map W.int) (i + 1 - 1) = some (.int ns[i.toNat]) := by
        have : i + 1 - 1 = (i.toNat : Int) := by omega
        rw [this]
        exact atI_n (by rw [List.getElem?_map, List.getElem?_eq_getElem hn]; rfl)
      generalize ns[i.toNat] = c at ei
      have f1 := set_get (u := .lst [.ref sc, .int (i + 1), .int ((a * 48271 + c + 11) % 2147483647), .int b]) g1
      have f3 := set_get2 (u := .lst [.ref sc, .int (i + 1), .int ((a * 48271 + c + 11) % 2147483647), .int b]) g3 h2
      by_cases hc : (10 : Int) ^ (18 : Int).toNat ≤ c
      · simp only [ho_ok, ho_ret, ho_bd, ho_bdI, ho_bdO, hos_nx, hos_rt, hos_bk, hos_ct, hos_onx, hos_ort, hos_exS, hos_exT, hos_exA, hos_exI, nxt_nx, nxt_rt, nxt_bk, nxt_ct, hos_seq, hos_asg, fin_nx, fin_rt, ho_body1, ho_body2, ho_body3, ho_body4, ho_meth, ho_bm, ho_prop, ho_if, hos_if, ho_and, ho_or, ho_andT, ho_orT, ho_ite, ho_chain, ret_d, ngW_b, blM_b, truM_b, getSl_0, getSl_s, lstM_d, tupM_d, add_ii, add_ss, sub_ii, mul_ii, fdiv_ii, mod_ii, pow_ii, lt_ii, le_ii, gt_ii, ge_ii, eq_ii, ne_ii, eq_ss, ne_ss, intM_i, lenM_t, ixM_t, seqV_s, seqV_t, partM_i, in_1, List.length_cons, List.length_nil, List.length_singleton, List.map_cons, List.map_nil, List.cons_append, List.nil_append, List.set_cons_zero, List.set_cons_succ, List.replicate_succ, List.replicate_zero, List.append_nil, Nat.reduceAdd, Nat.reduceSub, Nat.zero_add, Nat.sub_self, Nat.reduceEqDiff, Nat.reduceLeDiff, if_true, if_false, ite_true, ite_false, reduceIte, decide_true, decide_false, Bool.not_true, Bool.not_false, true_and, and_true, r__law_taken, row3 h1, row1 h1, put1 h1, row0 g1, row1 g1, row2 g1, put2 g1, lenM_r e0, hb, hm, hm2, hl, sm, ixM_r _ e0, ei, row2 f1, hc, put3 f1]
        exact ⟨by omega, ⟨by omega, by omega, by decide⟩, _, rfl, (md _).1, (md _).2, ⟨sc, ns, _, _, _, set_get f1, h2, set_get2 f3 h2, by omega⟩, (Fr.set.trans Fr.set).trans Fr.set, by simp⟩
      · simp only [ho_ok, ho_ret, ho_bd, ho_bdI, ho_bdO, hos_nx, hos_rt, hos_bk, hos_ct, hos_onx, hos_ort, hos_exS, hos_exT, hos_exA, hos_exI, nxt_nx, nxt_rt, nxt_bk, nxt_ct, hos_seq, hos_asg, fin_nx, fin_rt, ho_body1, ho_body2, ho_body3, ho_body4, ho_meth, ho_bm, ho_prop, ho_if, hos_if, ho_and, ho_or, ho_andT, ho_orT, ho_ite, ho_chain, ret_d, ngW_b, blM_b, truM_b, getSl_0, getSl_s, lstM_d, tupM_d, add_ii, add_ss, sub_ii, mul_ii, fdiv_ii, mod_ii, pow_ii, lt_ii, le_ii, gt_ii, ge_ii, eq_ii, ne_ii, eq_ss, ne_ss, intM_i, lenM_t, ixM_t, seqV_s, seqV_t, partM_i, in_1, List.length_cons, List.length_nil, List.length_singleton, List.map_cons, List.map_nil, List.cons_append, List.nil_append, List.set_cons_zero, List.set_cons_succ, List.replicate_succ, List.replicate_zero, List.append_nil, Nat.reduceAdd, Nat.reduceSub, Nat.zero_add, Nat.sub_self, Nat.reduceEqDiff, Nat.reduceLeDiff, if_true, if_false, ite_true, ite_false, reduceIte, decide_true, decide_false, Bool.not_true, Bool.not_false, true_and, and_true, r__law_taken, row3 h1, row1 h1, put1 h1, row0 g1, row1 g1, row2 g1, put2 g1, lenM_r e0, hb, hm, hm2, hl, sm, ixM_r _ e0, ei, row2 f1, hc, put3 f1]
        exact ⟨by omega, ⟨by omega, by omega, by decide⟩, _, rfl, (md _).1, (md _).2, ⟨sc, ns, _, _, _, f1, h2, f3, by omega⟩, Fr.set.trans Fr.set, by simp⟩
end Lw


namespace Lw
open PySem L2 RP
def sgs : List Nat := [46, 97, 98, 99, 100, 101, 102, 103, 104, 105, 106, 107, 108, 109, 110, 111, 112, 113, 114, 115, 116, 117, 118, 119, 120, 121, 122]
/-- a bath of the state -/
def IsBath (S : Sto) (i : Nat) (w h : Int) (z : Str) : Prop := S[i]? = some (.slo 5 [.tup [.int w, .int h, .str z]])
theorem IsBath.up {S S' : Sto} {i : Nat} {w h : Int} {z : Str} (b : IsBath S i w h z) (e : S <+: S') : IsBath S' i w h z := Ext.get e b
/-- what may stand in a bath -/
structure Fits (w h : Int) (l : List Nat) : Prop where
  w1 : 1 ≤ w
  w5 : w ≤ 5
  h1 : 1 ≤ h
  h5 : h ≤ 5
  wh : w * h ≤ 12
  len : (l.length : Int) = w * h
  sg : ∀ c ∈ l, c ∈ sgs
section
variable {S : Sto} {i j : Nat} {w h w' h' : Int} {z z' : Str}
theorem IsBath.fld (b : IsBath S i w h z) : fldM true 5 0 (.ref i) S = .ok (.tup [.int w, .int h, .str z]) S := fld_s (cc := 5) (j := 0) (v := .tup [.int w, .int h, .str z]) (show S[i]? = some _ from b) rfl
theorem IsBath.cls (b : IsBath S i w h z) : clsOf S (.ref i) = some (true, 5) := cls_s (show S[i]? = some _ from b)
theorem width_ok (b : IsBath S i w h z) : g_Bath_width [.ref i] S = .ok (.int w) S := by
  obtain ⟨a, S', e, rfl, rfl⟩ := Ho.ex (show Ho (g_Bath_width [.ref i] S) (fun v S' => v = .int w ∧ S' = S) noX by
    unfold g_Bath_width
    simp only [ho_ok, ho_ret, ho_bd, ho_bdI, ho_bdO, hos_nx, hos_rt, hos_bk, hos_ct, hos_onx, hos_ort, hos_exS, hos_exT, hos_exA, hos_exI, nxt_nx, nxt_rt, nxt_bk, nxt_ct, hos_seq, hos_asg, fin_nx, fin_rt, ho_body1, ho_body2, ho_body3, ho_body4, ho_meth, ho_bm, ho_prop, ho_if, hos_if, ho_and, ho_or, ho_andT, ho_orT, ho_ite, ho_chain, ret_d, ngW_b, blM_b, truM_b, getSl_0, getSl_s, lstM_d, tupM_d, add_ii, add_ss, sub_ii, mul_ii, fdiv_ii, mod_ii, pow_ii, lt_ii, le_ii, gt_ii, ge_ii, eq_ii, ne_ii, eq_ss, ne_ss, intM_i, lenM_t, ixM_t, seqV_s, seqV_t, partM_i, in_1, List.length_cons, List.length_nil, List.length_singleton, List.map_cons, List.map_nil, List.cons_append, List.nil_append, List.set_cons_zero, List.set_cons_succ, List.replicate_succ, List.replicate_zero, List.append_nil, Nat.reduceAdd, Nat.reduceSub, Nat.zero_add, Nat.sub_self, Nat.reduceEqDiff, Nat.reduceLeDiff, if_true, if_false, ite_true, ite_false, reduceIte, decide_true, decide_false, Bool.not_true, Bool.not_false, true_and, and_true, r_Bath_width, b.fld]
    exact ⟨rfl, rfl⟩)
  exact e
theorem height_ok (b : IsBath S i w h z) : g_Bath_height [.ref i] S = .ok (.int h) S := by
  obtain ⟨a, S', e, rfl, rfl⟩ := Ho.ex (show Ho (g_Bath_height [.ref i] S) (fun v S' => v = .int h ∧ S' = S) noX by
    unfold g_Bath_height
    simp only [ho_ok, ho_ret, ho_bd, ho_bdI, ho_bdO, hos_nx, hos_rt, hos_bk, hos_ct, hos_onx, hos_ort, hos_exS, hos_exT, hos_exA, hos_exI, nxt_nx, nxt_rt, nxt_bk, nxt_ct, hos_seq, hos_asg, fin_nx, fin_rt, ho_body1, ho_body2, ho_body3, ho_body4, ho_meth, ho_bm, ho_prop, ho_if, hos_if, ho_and, ho_or, ho_andT, ho_orT, ho_ite, ho_chain, ret_d, ngW_b, blM_b, truM_b, getSl_0, getSl_s, lstM_d, tupM_d, add_ii, add_ss, sub_ii, mul_ii, fdiv_ii, mod_ii, pow_ii, lt_ii, le_ii, gt_ii, ge_ii, eq_ii, ne_ii, eq_ss, ne_ss, intM_i, lenM_t, ixM_t, seqV_s, seqV_t, partM_i, in_1, List.length_cons, List.length_nil, List.length_singleton, List.map_cons, List.map_nil, List.cons_append, List.nil_append, List.set_cons_zero, List.set_cons_succ, List.replicate_succ, List.replicate_zero, List.append_nil, Nat.reduceAdd, Nat.reduceSub, Nat.zero_add, Nat.sub_self, Nat.reduceEqDiff, Nat.reduceLeDiff, if_true, if_false, ite_true, ite_false, reduceIte, decide_true, decide_false, Bool.not_true, Bool.not_false, true_and, and_true, r_Bath_height, b.fld]
    exact ⟨rfl, rfl⟩)
  exact e
theorem cells_ok (b : IsBath S i w h z) : g_Bath_cells [.ref i] S = .ok (.str z) S := by
  obtain ⟨a, S', e, rfl, rfl⟩ := Ho.ex (show Ho (g_Bath_cells [.ref i] S) (fun v S' => v = .str z ∧ S' = S) noX by
    unfold g_Bath_cells
    simp only [ho_ok, ho_ret, ho_bd, ho_bdI, ho_bdO, hos_nx, hos_rt, hos_bk, hos_ct, hos_onx, hos_ort, hos_exS, hos_exT, hos_exA, hos_exI, nxt_nx, nxt_rt, nxt_bk, nxt_ct, hos_seq, hos_asg, fin_nx, fin_rt, ho_body1, ho_body2, ho_body3, ho_body4, ho_meth, ho_bm, ho_prop, ho_if, hos_if, ho_and, ho_or, ho_andT, ho_orT, ho_ite, ho_chain, ret_d, ngW_b, blM_b, truM_b, getSl_0, getSl_s, lstM_d, tupM_d, add_ii, add_ss, sub_ii, mul_ii, fdiv_ii, mod_ii, pow_ii, lt_ii, le_ii, gt_ii, ge_ii, eq_ii, ne_ii, eq_ss, ne_ss, intM_i, lenM_t, ixM_t, seqV_s, seqV_t, partM_i, in_1, List.length_cons, List.length_nil, List.length_singleton, List.map_cons, List.map_nil, List.cons_append, List.nil_append, List.set_cons_zero, List.set_cons_succ, List.replicate_succ, List.replicate_zero, List.append_nil, Nat.reduceAdd, Nat.reduceSub, Nat.zero_add, Nat.sub_self, Nat.reduceEqDiff, Nat.reduceLeDiff, if_true, if_false, ite_true, ite_false, reduceIte, decide_true, decide_false, Bool.not_true, Bool.not_false, true_and, and_true, r_Bath_cells, b.fld]
    exact ⟨rfl, rfl⟩)
  exact e
theorem eq_ok (b : IsBath S i w h z) (b' : IsBath S j w h z) (ok : PyData.strOk z = true) : g_BathD_eqD [.ref i, .ref j] S = .ok (.bl true) S := by
  have hz : (3 : Nat) ≤ sizeLine := by decide
  have he : pyEq (.tup [.int w, .int h, .str z]) (.tup [.int w, .int h, .str z]) S = .ok (.bl true) S := by
    have : PyData.eqv (.tuple [.int w, .int h, .str z]) (.tuple [.int w, .int h, .str z]) = true := by simp [PyData.eqv, PyData.eqvAll]
    have e : eqW S (.tup [.int w, .int h, .str z]) (.tup [.int w, .int h, .str z]) = some true := by
      show (if SeqAt.shaped (.tuple [.int w, .int h, .str z]) && SeqAt.shaped (.tuple [.int w, .int h, .str z]) then some (PyData.eqv (.tuple [.int w, .int h, .str z]) (.tuple [.int w, .int h, .str z])) else none) = _
      have sh : SeqAt.shaped (.tuple [.int w, .int h, .str z]) = true := by simp [SeqAt.shaped, PyData.canLay0, PyData.canLayAll0, PyData.depth, PyData.depthAll, ok]
      rw [this, sh]
      rfl
    simp only [pyEq, e]
  obtain ⟨a, S', e, rfl, rfl⟩ := Ho.ex (show Ho (g_BathD_eqD [.ref i, .ref j] S) (fun v S' => v = .bl true ∧ S' = S) noX by
    unfold g_BathD_eqD
    simp only [ho_ok, ho_ret, ho_bd, ho_bdI, ho_bdO, hos_nx, hos_rt, hos_bk, hos_ct, hos_onx, hos_ort, hos_exS, hos_exT, hos_exA, hos_exI, nxt_nx, nxt_rt, nxt_bk, nxt_ct, hos_seq, hos_asg, fin_nx, fin_rt, ho_body1, ho_body2, ho_body3, ho_body4, ho_meth, ho_bm, ho_prop, ho_if, hos_if, ho_and, ho_or, ho_andT, ho_orT, ho_ite, ho_chain, ret_d, ngW_b, blM_b, truM_b, getSl_0, getSl_s, lstM_d, tupM_d, add_ii, add_ss, sub_ii, mul_ii, fdiv_ii, mod_ii, pow_ii, lt_ii, le_ii, gt_ii, ge_ii, eq_ii, ne_ii, eq_ss, ne_ss, intM_i, lenM_t, ixM_t, seqV_s, seqV_t, partM_i, in_1, List.length_cons, List.length_nil, List.length_singleton, List.map_cons, List.map_nil, List.cons_append, List.nil_append, List.set_cons_zero, List.set_cons_succ, List.replicate_succ, List.replicate_zero, List.append_nil, Nat.reduceAdd, Nat.reduceSub, Nat.zero_add, Nat.sub_self, Nat.reduceEqDiff, Nat.reduceLeDiff, if_true, if_false, ite_true, ite_false, reduceIte, decide_true, decide_false, Bool.not_true, Bool.not_false, true_and, and_true, r_BathD_eqD, b.fld, isi1M, b'.cls, width_ok b', height_ok b', cells_ok b', hz, he])
  exact e
end
theorem kit_int_int : kitB "int" "int" = some true := by decide +kernel
theorem kit_int_bool : kitB "int" "bool" = some false := by decide +kernel
theorem kit_str_str : kitB "str" "str" = some true := by decide +kernel
theorem is_number_int (i lo hi : Int) (S : Sto) : g_is_number [.int i, .int lo, .int hi] S = .ok (.bl (decide (lo ≤ i ∧ i ≤ hi))) S := by
  obtain ⟨a, S', e, rfl, rfl⟩ := Ho.ex (show Ho (g_is_number [.int i, .int lo, .int hi] S) (fun v S' => v = .bl (decide (lo ≤ i ∧ i ≤ hi)) ∧ S' = S) noX by
    unfold g_is_number
    by_cases h : lo ≤ i
    · by_cases h2 : i ≤ hi
      · simp only [ho_ok, ho_ret, ho_bd, ho_bdI, ho_bdO, hos_nx, hos_rt, hos_bk, hos_ct, hos_onx, hos_ort, hos_exS, hos_exT, hos_exA, hos_exI, nxt_nx, nxt_rt, nxt_bk, nxt_ct, hos_seq, hos_asg, fin_nx, fin_rt, ho_body1, ho_body2, ho_body3, ho_body4, ho_meth, ho_bm, ho_prop, ho_if, hos_if, ho_and, ho_or, ho_andT, ho_orT, ho_ite, ho_chain, ret_d, ngW_b, blM_b, truM_b, getSl_0, getSl_s, lstM_d, tupM_d, add_ii, add_ss, sub_ii, mul_ii, fdiv_ii, mod_ii, pow_ii, lt_ii, le_ii, gt_ii, ge_ii, eq_ii, ne_ii, eq_ss, ne_ss, intM_i, lenM_t, ixM_t, seqV_s, seqV_t, partM_i, in_1, List.length_cons, List.length_nil, List.length_singleton, List.map_cons, List.map_nil, List.cons_append, List.nil_append, List.set_cons_zero, List.set_cons_succ, List.replicate_succ, List.replicate_zero, List.append_nil, Nat.reduceAdd, Nat.reduceSub, Nat.zero_add, Nat.sub_self, Nat.reduceEqDiff, Nat.reduceLeDiff, if_true, if_false, ite_true, ite_false, reduceIte, decide_true, decide_false, Bool.not_true, Bool.not_false, true_and, and_true, r_is_number, isiM, tyN, kit_int_int, kit_int_bool, h, h2]
      · simp only [ho_ok, ho_ret, ho_bd, ho_bdI, ho_bdO, hos_nx, hos_rt, hos_bk, hos_ct, hos_onx, hos_ort, hos_exS, hos_exT, hos_exA, hos_exI, nxt_nx, nxt_rt, nxt_bk, nxt_ct, hos_seq, hos_asg, fin_nx, fin_rt, ho_body1, ho_body2, ho_body3, ho_body4, ho_meth, ho_bm, ho_prop, ho_if, hos_if, ho_and, ho_or, ho_andT, ho_orT, ho_ite, ho_chain, ret_d, ngW_b, blM_b, truM_b, getSl_0, getSl_s, lstM_d, tupM_d, add_ii, add_ss, sub_ii, mul_ii, fdiv_ii, mod_ii, pow_ii, lt_ii, le_ii, gt_ii, ge_ii, eq_ii, ne_ii, eq_ss, ne_ss, intM_i, lenM_t, ixM_t, seqV_s, seqV_t, partM_i, in_1, List.length_cons, List.length_nil, List.length_singleton, List.map_cons, List.map_nil, List.cons_append, List.nil_append, List.set_cons_zero, List.set_cons_succ, List.replicate_succ, List.replicate_zero, List.append_nil, Nat.reduceAdd, Nat.reduceSub, Nat.zero_add, Nat.sub_self, Nat.reduceEqDiff, Nat.reduceLeDiff, if_true, if_false, ite_true, ite_false, reduceIte, decide_true, decide_false, Bool.not_true, Bool.not_false, true_and, and_true, r_is_number, isiM, tyN, kit_int_int, kit_int_bool, h, h2]
    · simp only [ho_ok, ho_ret, ho_bd, ho_bdI, ho_bdO, hos_nx, hos_rt, hos_bk, hos_ct, hos_onx, hos_ort, hos_exS, hos_exT, hos_exA, hos_exI, nxt_nx, nxt_rt, nxt_bk, nxt_ct, hos_seq, hos_asg, fin_nx, fin_rt, ho_body1, ho_body2, ho_body3, ho_body4, ho_meth, ho_bm, ho_prop, ho_if, hos_if, ho_and, ho_or, ho_andT, ho_orT, ho_ite, ho_chain, ret_d, ngW_b, blM_b, truM_b, getSl_0, getSl_s, lstM_d, tupM_d, add_ii, add_ss, sub_ii, mul_ii, fdiv_ii, mod_ii, pow_ii, lt_ii, le_ii, gt_ii, ge_ii, eq_ii, ne_ii, eq_ss, ne_ss, intM_i, lenM_t, ixM_t, seqV_s, seqV_t, partM_i, in_1, List.length_cons, List.length_nil, List.length_singleton, List.map_cons, List.map_nil, List.cons_append, List.nil_append, List.set_cons_zero, List.set_cons_succ, List.replicate_succ, List.replicate_zero, List.append_nil, Nat.reduceAdd, Nat.reduceSub, Nat.zero_add, Nat.sub_self, Nat.reduceEqDiff, Nat.reduceLeDiff, if_true, if_false, ite_true, ite_false, reduceIte, decide_true, decide_false, Bool.not_true, Bool.not_false, true_and, and_true, r_is_number, isiM, tyN, kit_int_int, kit_int_bool, h]
      simp only [false_and, decide_false])
  exact e
theorem is_size_ok {w h : Int} {l : List Nat} (f : Fits w h l) (S : Sto) : g_is_size [.int w, .int h] S = .ok (.bl true) S := by
  obtain ⟨a, S', e, rfl, rfl⟩ := Ho.ex (show Ho (g_is_size [.int w, .int h] S) (fun v S' => v = .bl true ∧ S' = S) noX by
    have sm : (RP.small64 w || RP.small64 h) = true := by
      have h1 := f.w1
      have h2 := f.w5
      have : RP.small64 w = true := decide_eq_true ⟨by omega, by omega⟩
      rw [this]; rfl
    unfold g_is_size
    simp only [ho_ok, ho_ret, ho_bd, ho_bdI, ho_bdO, hos_nx, hos_rt, hos_bk, hos_ct, hos_onx, hos_ort, hos_exS, hos_exT, hos_exA, hos_exI, nxt_nx, nxt_rt, nxt_bk, nxt_ct, hos_seq, hos_asg, fin_nx, fin_rt, ho_body1, ho_body2, ho_body3, ho_body4, ho_meth, ho_bm, ho_prop, ho_if, hos_if, ho_and, ho_or, ho_andT, ho_orT, ho_ite, ho_chain, ret_d, ngW_b, blM_b, truM_b, getSl_0, getSl_s, lstM_d, tupM_d, add_ii, add_ss, sub_ii, mul_ii, fdiv_ii, mod_ii, pow_ii, lt_ii, le_ii, gt_ii, ge_ii, eq_ii, ne_ii, eq_ss, ne_ss, intM_i, lenM_t, ixM_t, seqV_s, seqV_t, partM_i, in_1, List.length_cons, List.length_nil, List.length_singleton, List.map_cons, List.map_nil, List.cons_append, List.nil_append, List.set_cons_zero, List.set_cons_succ, List.replicate_succ, List.replicate_zero, List.append_nil, Nat.reduceAdd, Nat.reduceSub, Nat.zero_add, Nat.sub_self, Nat.reduceEqDiff, Nat.reduceLeDiff, if_true, if_false, ite_true, ite_false, reduceIte, decide_true, decide_false, Bool.not_true, Bool.not_false, true_and, and_true, r_is_size, is_number_int, f.w1, f.w5, f.h1, f.h5, f.wh, sm])
  exact e
theorem sgs_in : ∀ c ∈ sgs, c ∈ (Str.ofString "abcdefghijklmnopqrstuvwxyz" ++ Str.ofString ".").cps.toList := by decide +kernel
theorem are_signs_ok {w h : Int} {l : List Nat} (f : Fits w h l) (S : Sto) : Ho (g_are_signs [.int (w * h), .str (txt l)] S) (fun v S' => v = .bl true ∧ S <+: S') noX := by
  have hl : (txt l).length = l.length := txt_len l
  have e1 : (((txt l).length : Nat) : Int) = w * h := by rw [hl]; exact f.len
  have hz : (txt l).length ≤ sizeLine := by
    have := sizeLine_big
    have := f.wh
    have := f.len
    omega
  have hz2 : (Str.ofString "abcdefghijklmnopqrstuvwxyz").length + (Str.ofString ".").length ≤ sizeLine := by decide +kernel
  have lc : lcV (fun _ => some ((txt l).cps.toList.map fun n => W.str ⟨#[n]⟩)) (Tgt.one 2).g (fun x => RP.ret true) (fun sl => bd (getSl 2 sl) fun x => bd (bd (RP.ret (W.str (Str.ofString "abcdefghijklmnopqrstuvwxyz"))) fun x => bd (RP.ret (W.str (Str.ofString "."))) fun y => pyAdd x y) fun y => pyIn x y) (wipeS [some (.int (w * h)), some (.str (txt l)), none] [2]) S
      = .ok (.ref S.length) (S ++ [.lst (((txt l).cps.toList.map fun n => W.str ⟨#[n]⟩).map fun _ => .bl true)]) := by
    refine lcV_map (fun _ => .bl true) rfl ?_ fun u hu => ?_
    · rw [List.length_map, txt_list, ← hl]; exact hz
    · obtain ⟨c, hc, rfl⟩ := List.mem_map.mp hu
      rw [txt_list] at hc
      have hin := sgs_in c (f.sg c hc)
      refine ⟨_, rfl, ?_⟩
      simp only [bd_d, wipeS, List.set_cons_succ, List.set_cons_zero, getSl_s, getSl_0, ret_d, add_ss, hz2, if_true, in_1, hin, decide_true]
  have hb : bools (((txt l).cps.toList.map fun n => W.str ⟨#[n]⟩).map fun _ => W.bl true) = some ((l.map fun n => W.str ⟨#[n]⟩).map fun _ => true) := bools_map (fun _ => true) _
  have hs : seqOf (S ++ [.lst (((txt l).cps.toList.map fun n => W.str ⟨#[n]⟩).map fun _ => .bl true)]) S.length = some _ := seq_lst get_last
  unfold g_are_signs
  simp only [ho_ok, ho_ret, ho_bd, ho_bdI, ho_bdO, hos_nx, hos_rt, hos_bk, hos_ct, hos_onx, hos_ort, hos_exS, hos_exT, hos_exA, hos_exI, nxt_nx, nxt_rt, nxt_bk, nxt_ct, hos_seq, hos_asg, fin_nx, fin_rt, ho_body1, ho_body2, ho_body3, ho_body4, ho_meth, ho_bm, ho_prop, ho_if, hos_if, ho_and, ho_or, ho_andT, ho_orT, ho_ite, ho_chain, ret_d, ngW_b, blM_b, truM_b, getSl_0, getSl_s, lstM_d, tupM_d, add_ii, add_ss, sub_ii, mul_ii, fdiv_ii, mod_ii, pow_ii, lt_ii, le_ii, gt_ii, ge_ii, eq_ii, ne_ii, eq_ss, ne_ss, intM_i, lenM_t, ixM_t, seqV_s, seqV_t, partM_i, in_1, List.length_cons, List.length_nil, List.length_singleton, List.map_cons, List.map_nil, List.cons_append, List.nil_append, List.set_cons_zero, List.set_cons_succ, List.replicate_succ, List.replicate_zero, List.append_nil, Nat.reduceAdd, Nat.reduceSub, Nat.zero_add, Nat.sub_self, Nat.reduceEqDiff, Nat.reduceLeDiff, if_true, if_false, ite_true, ite_false, reduceIte, decide_true, decide_false, Bool.not_true, Bool.not_false, true_and, and_true, r_are_signs, isiM, tyN, kit_str_str, lenM_s, hz, e1, lc, allM_r hs hb]
  exact ⟨by simp, ⟨_, rfl⟩⟩
end Lw


namespace Lw
open PySem L2 RP
theorem pre_set {S T : Sto} {o : Ob} (e : S ++ [o] <+: T) {u : Ob} : S <+: T.set S.length u ∧ (T.set S.length u)[S.length]? = some u := by
  obtain ⟨t, rfl⟩ := e
  constructor
  · refine ⟨u :: t, ?_⟩
    simp
  · rw [List.getElem?_set_self (by simp)]
theorem make_ok {w h : Int} {l : List Nat} (f : Fits w h l) (S : Sto) : Ho (makeM true 5 g_BathD_initD [.int w, .int h, .str (txt l)] S) (fun v S' => ∃ i, v = .ref i ∧ S <+: S' ∧ IsBath S' i w h (txt l)) noX := by
  have sm : (RP.small64 w || RP.small64 h) = true := by
    have h1 := f.w1
    have h2 := f.w5
    have : RP.small64 w = true := decide_eq_true ⟨by omega, by omega⟩
    rw [this]; rfl
  refine ho_make ?_
  obtain ⟨a, S', e, rfl, p⟩ := Ho.ex (are_signs_ok f (S ++ [.slo 5 []]))
  have g0 : S'[S.length]? = some (.slo 5 []) := Ext.get p get_last
  have g1 := setFld_s (j := 0) (v := .tup [.int w, .int h, .str (txt l)]) (fs' := [.tup [.int w, .int h, .str (txt l)]]) g0 rfl
  have hz : (3 : Nat) ≤ sizeLine := by decide
  unfold g_BathD_initD
  simp only [ho_ok, ho_ret, ho_bd, ho_bdI, ho_bdO, hos_nx, hos_rt, hos_bk, hos_ct, hos_onx, hos_ort, hos_exS, hos_exT, hos_exA, hos_exI, nxt_nx, nxt_rt, nxt_bk, nxt_ct, hos_seq, hos_asg, fin_nx, fin_rt, ho_body1, ho_body2, ho_body3, ho_body4, ho_meth, ho_bm, ho_prop, ho_if, hos_if, ho_and, ho_or, ho_andT, ho_orT, ho_ite, ho_chain, ret_d, ngW_b, blM_b, truM_b, getSl_0, getSl_s, lstM_d, tupM_d, add_ii, add_ss, sub_ii, mul_ii, fdiv_ii, mod_ii, pow_ii, lt_ii, le_ii, gt_ii, ge_ii, eq_ii, ne_ii, eq_ss, ne_ss, intM_i, lenM_t, ixM_t, seqV_s, seqV_t, partM_i, in_1, List.length_cons, List.length_nil, List.length_singleton, List.map_cons, List.map_nil, List.cons_append, List.nil_append, List.set_cons_zero, List.set_cons_succ, List.replicate_succ, List.replicate_zero, List.append_nil, Nat.reduceAdd, Nat.reduceSub, Nat.zero_add, Nat.sub_self, Nat.reduceEqDiff, Nat.reduceLeDiff, if_true, if_false, ite_true, ite_false, reduceIte, decide_true, decide_false, Bool.not_true, Bool.not_false, true_and, and_true, r_BathD_initD, is_number_int, is_size_ok f, e, f.w1, f.w5, sm, g1, hz]
  exact ⟨S.length, rfl, (pre_set p).1, (pre_set p).2⟩
theorem abc_in : ∀ n < 4, ∃ c, (Str.ofString ".abc").cps.toList[n]? = some c ∧ c ∈ sgs ∧ c ∈ [46, 97, 98, 99] := by
  intro n hn
  match n, hn with
  | 0, _ => exact ⟨46, by decide +kernel, by decide, by decide⟩
  | 1, _ => exact ⟨97, by decide +kernel, by decide, by decide⟩
  | 2, _ => exact ⟨98, by decide +kernel, by decide, by decide⟩
  | 3, _ => exact ⟨99, by decide +kernel, by decide, by decide⟩
theorem bath_ok {S : Sto} {r : Nat} (R : Row S r) : Ho (g__law_bath [.ref r, .int 3] S) (fun v S' => ∃ i w h l, v = .ref i ∧ i ≠ r ∧ Fits w h l ∧ (∀ c ∈ l, c ∈ [46, 97, 98, 99]) ∧ IsBath S' i w h (txt l) ∧ Row S' r ∧ Fr r S S') noX := by
  have hz2 := sizeLine_big
  have s4 : (Str.ofString ".abc").length ≤ sizeLine := by decide +kernel
  unfold g__law_bath
  simp only [ho_ok, ho_ret, ho_bd, ho_bdI, ho_bdO, hos_nx, hos_rt, hos_bk, hos_ct, hos_onx, hos_ort, hos_exS, hos_exT, hos_exA, hos_exI, nxt_nx, nxt_rt, nxt_bk, nxt_ct, hos_seq, hos_asg, fin_nx, fin_rt, ho_body1, ho_body2, ho_body3, ho_body4, ho_meth, ho_bm, ho_prop, ho_if, hos_if, ho_and, ho_or, ho_andT, ho_orT, ho_ite, ho_chain, ret_d, ngW_b, blM_b, truM_b, getSl_0, getSl_s, lstM_d, tupM_d, add_ii, add_ss, sub_ii, mul_ii, fdiv_ii, mod_ii, pow_ii, lt_ii, le_ii, gt_ii, ge_ii, eq_ii, ne_ii, eq_ss, ne_ss, intM_i, lenM_t, ixM_t, seqV_s, seqV_t, partM_i, in_1, List.length_cons, List.length_nil, List.length_singleton, List.map_cons, List.map_nil, List.cons_append, List.nil_append, List.set_cons_zero, List.set_cons_succ, List.replicate_succ, List.replicate_zero, List.append_nil, Nat.reduceAdd, Nat.reduceSub, Nat.zero_add, Nat.sub_self, Nat.reduceEqDiff, Nat.reduceLeDiff, if_true, if_false, ite_true, ite_false, reduceIte, decide_true, decide_false, Bool.not_true, Bool.not_false, true_and, and_true, r__law_bath]
  refine Ho.call (taken_ok R (by decide) (by decide)) ?_
  rintro v S1 ⟨a, rfl, a0, a1, R1, f1, _⟩
  simp only [ho_ok, ho_ret, ho_bd, ho_bdI, ho_bdO, hos_nx, hos_rt, hos_bk, hos_ct, hos_onx, hos_ort, hos_exS, hos_exT, hos_exA, hos_exI, nxt_nx, nxt_rt, nxt_bk, nxt_ct, hos_seq, hos_asg, fin_nx, fin_rt, ho_body1, ho_body2, ho_body3, ho_body4, ho_meth, ho_bm, ho_prop, ho_if, hos_if, ho_and, ho_or, ho_andT, ho_orT, ho_ite, ho_chain, ret_d, ngW_b, blM_b, truM_b, getSl_0, getSl_s, lstM_d, tupM_d, add_ii, add_ss, sub_ii, mul_ii, fdiv_ii, mod_ii, pow_ii, lt_ii, le_ii, gt_ii, ge_ii, eq_ii, ne_ii, eq_ss, ne_ss, intM_i, lenM_t, ixM_t, seqV_s, seqV_t, partM_i, in_1, List.length_cons, List.length_nil, List.length_singleton, List.map_cons, List.map_nil, List.cons_append, List.nil_append, List.set_cons_zero, List.set_cons_succ, List.replicate_succ, List.replicate_zero, List.append_nil, Nat.reduceAdd, Nat.reduceSub, Nat.zero_add, Nat.sub_self, Nat.reduceEqDiff, Nat.reduceLeDiff, if_true, if_false, ite_true, ite_false, reduceIte, decide_true, decide_false, Bool.not_true, Bool.not_false, true_and, and_true]
  refine Ho.call (taken_ok R1 (by decide) (by decide)) ?_
  rintro v S2 ⟨b, rfl, b0, b1, R2, f2, _⟩
  generalize hw : 1 + a = w
  generalize hh : 1 + b = h
  have w1 : 1 ≤ w := by omega
  have w4 : w ≤ 4 := by omega
  have h1 : 1 ≤ h := by omega
  have h3 : h ≤ 3 := by omega
  have wh0 : 0 ≤ w * h := Int.mul_nonneg (by omega) (by omega)
  have wh : w * h ≤ 12 := by
    have := Int.mul_le_mul w4 h3 (by omega) (by omega)
    omega
  have sm : (RP.small64 w || RP.small64 h) = true := by
    have : RP.small64 w = true := decide_eq_true ⟨by omega, by omega⟩
    rw [this]; rfl
  have hb : -(2 ^ 62) ≤ w * h ∧ w * h < 2 ^ 62 := ⟨by omega, by omega⟩
  simp only [ho_ok, ho_ret, ho_bd, ho_bdI, ho_bdO, hos_nx, hos_rt, hos_bk, hos_ct, hos_onx, hos_ort, hos_exS, hos_exT, hos_exA, hos_exI, nxt_nx, nxt_rt, nxt_bk, nxt_ct, hos_seq, hos_asg, fin_nx, fin_rt, ho_body1, ho_body2, ho_body3, ho_body4, ho_meth, ho_bm, ho_prop, ho_if, hos_if, ho_and, ho_or, ho_andT, ho_orT, ho_ite, ho_chain, ret_d, ngW_b, blM_b, truM_b, getSl_0, getSl_s, lstM_d, tupM_d, add_ii, add_ss, sub_ii, mul_ii, fdiv_ii, mod_ii, pow_ii, lt_ii, le_ii, gt_ii, ge_ii, eq_ii, ne_ii, eq_ss, ne_ss, intM_i, lenM_t, ixM_t, seqV_s, seqV_t, partM_i, in_1, List.length_cons, List.length_nil, List.length_singleton, List.map_cons, List.map_nil, List.cons_append, List.nil_append, List.set_cons_zero, List.set_cons_succ, List.replicate_succ, List.replicate_zero, List.append_nil, Nat.reduceAdd, Nat.reduceSub, Nat.zero_add, Nat.sub_self, Nat.reduceEqDiff, Nat.reduceLeDiff, if_true, if_false, ite_true, ite_false, reduceIte, decide_true, decide_false, Bool.not_true, Bool.not_false, true_and, and_true, hw, hh, parM, List.zip_cons_cons, List.zip_nil_right, List.zip_nil_left, List.foldl_cons, List.foldl_nil, sm, rng1_i, hb, tyN]
  refine ho_lc (ws := (List.range (w * h).toNat).map fun (i : Nat) => W.int i) (fun j acc S' => (∃ z : List Nat, acc = z.map (fun c => W.str (one c)) ∧ z.length = j ∧ (∀ c ∈ z, c ∈ sgs) ∧ ∀ c ∈ z, c ∈ [46, 97, 98, 99]) ∧ Row S' r ∧ Fr r S S') ⟨⟨[], rfl, rfl, by simp, by simp⟩, R2, f1.trans f2⟩ (fun _ _ _ _ => rfl) (fun j u acc S' hw hp => ?_) fun acc S' hp => ?_
  · obtain ⟨⟨z, rfl, hz, hs, h4⟩, R3, f3⟩ := hp
    have hj : j < (w * h).toNat := by
      have := (List.getElem?_eq_some_iff.mp hw).1
      simpa using this
    simp only [ho_ok, ho_ret, ho_bd, ho_bdI, ho_bdO, hos_nx, hos_rt, hos_bk, hos_ct, hos_onx, hos_ort, hos_exS, hos_exT, hos_exA, hos_exI, nxt_nx, nxt_rt, nxt_bk, nxt_ct, hos_seq, hos_asg, fin_nx, fin_rt, ho_body1, ho_body2, ho_body3, ho_body4, ho_meth, ho_bm, ho_prop, ho_if, hos_if, ho_and, ho_or, ho_andT, ho_orT, ho_ite, ho_chain, ret_d, ngW_b, blM_b, truM_b, getSl_0, getSl_s, lstM_d, tupM_d, add_ii, add_ss, sub_ii, mul_ii, fdiv_ii, mod_ii, pow_ii, lt_ii, le_ii, gt_ii, ge_ii, eq_ii, ne_ii, eq_ss, ne_ss, intM_i, lenM_t, ixM_t, seqV_s, seqV_t, partM_i, in_1, List.length_cons, List.length_nil, List.length_singleton, List.map_cons, List.map_nil, List.cons_append, List.nil_append, List.set_cons_zero, List.set_cons_succ, List.replicate_succ, List.replicate_zero, List.append_nil, Nat.reduceAdd, Nat.reduceSub, Nat.zero_add, Nat.sub_self, Nat.reduceEqDiff, Nat.reduceLeDiff, if_true, if_false, ite_true, ite_false, reduceIte, decide_true, decide_false, Bool.not_true, Bool.not_false, true_and, and_true, Tgt.g, wipeS]
    refine Ho.call (taken_ok R3 (by decide) (by decide)) ?_
    rintro v S4 ⟨c, rfl, c0, c1, R4, f4, _⟩
    obtain ⟨x, hx, hxs, hx4⟩ := abc_in c.toNat (by omega)
    have e1 := atI_n hx
    rw [show ((c.toNat : Nat) : Int) = c by omega] at e1
    simp only [ho_ok, ho_ret, ho_bd, ho_bdI, ho_bdO, hos_nx, hos_rt, hos_bk, hos_ct, hos_onx, hos_ort, hos_exS, hos_exT, hos_exA, hos_exI, nxt_nx, nxt_rt, nxt_bk, nxt_ct, hos_seq, hos_asg, fin_nx, fin_rt, ho_body1, ho_body2, ho_body3, ho_body4, ho_meth, ho_bm, ho_prop, ho_if, hos_if, ho_and, ho_or, ho_andT, ho_orT, ho_ite, ho_chain, ret_d, ngW_b, blM_b, truM_b, getSl_0, getSl_s, lstM_d, tupM_d, add_ii, add_ss, sub_ii, mul_ii, fdiv_ii, mod_ii, pow_ii, lt_ii, le_ii, gt_ii, ge_ii, eq_ii, ne_ii, eq_ss, ne_ss, intM_i, lenM_t, ixM_t, seqV_s, seqV_t, partM_i, in_1, List.length_cons, List.length_nil, List.length_singleton, List.map_cons, List.map_nil, List.cons_append, List.nil_append, List.set_cons_zero, List.set_cons_succ, List.replicate_succ, List.replicate_zero, List.append_nil, Nat.reduceAdd, Nat.reduceSub, Nat.zero_add, Nat.sub_self, Nat.reduceEqDiff, Nat.reduceLeDiff, if_true, if_false, ite_true, ite_false, reduceIte, decide_true, decide_false, Bool.not_true, Bool.not_false, true_and, and_true, ixM_s, e1, s4]
    refine ⟨by simp; omega, ⟨z ++ [x], by simp [one], by simp [hz], fun y hy => ?_, fun y hy => ?_⟩, R4, f3.trans f4⟩
    · rcases List.mem_append.mp hy with hy | hy
      · exact hs y hy
      · rw [List.mem_singleton.mp hy]; exact hxs
    · rcases List.mem_append.mp hy with hy | hy
      · exact h4 y hy
      · rw [List.mem_singleton.mp hy]; exact hx4
  · obtain ⟨⟨z, rfl, hz, hs, h4⟩, R3, f3⟩ := hp
    have hlen : z.length = (w * h).toNat := by rw [hz]; simp
    have e3 := joinM_r (S := S' ++ [.lst (z.map fun c => W.str (one c))]) (a := Str.ofString "") (seq_lst get_last) (textsOf_map one z) (by
      rw [sum_ones, List.length_map]
      have : (Str.ofString "").length = 0 := by decide +kernel
      rw [this]
      omega)
    simp only [ho_ok, ho_ret, ho_bd, ho_bdI, ho_bdO, hos_nx, hos_rt, hos_bk, hos_ct, hos_onx, hos_ort, hos_exS, hos_exT, hos_exA, hos_exI, nxt_nx, nxt_rt, nxt_bk, nxt_ct, hos_seq, hos_asg, fin_nx, fin_rt, ho_body1, ho_body2, ho_body3, ho_body4, ho_meth, ho_bm, ho_prop, ho_if, hos_if, ho_and, ho_or, ho_andT, ho_orT, ho_ite, ho_chain, ret_d, ngW_b, blM_b, truM_b, getSl_0, getSl_s, lstM_d, tupM_d, add_ii, add_ss, sub_ii, mul_ii, fdiv_ii, mod_ii, pow_ii, lt_ii, le_ii, gt_ii, ge_ii, eq_ii, ne_ii, eq_ss, ne_ss, intM_i, lenM_t, ixM_t, seqV_s, seqV_t, partM_i, in_1, List.length_cons, List.length_nil, List.length_singleton, List.map_cons, List.map_nil, List.cons_append, List.nil_append, List.set_cons_zero, List.set_cons_succ, List.replicate_succ, List.replicate_zero, List.append_nil, Nat.reduceAdd, Nat.reduceSub, Nat.zero_add, Nat.sub_self, Nat.reduceEqDiff, Nat.reduceLeDiff, if_true, if_false, ite_true, ite_false, reduceIte, decide_true, decide_false, Bool.not_true, Bool.not_false, true_and, and_true, e3]
    rw [join_txt]
    have f : Fits w h z := ⟨w1, by omega, h1, by omega, wh, by omega, hs⟩
    refine Ho.call (make_ok f _) ?_
    rintro v S5 ⟨i, rfl, p5, b5⟩
    have R5 := (R3.fr ⟨_, rfl⟩).fr p5
    refine ⟨i, w, h, z, rfl, fun e => ?_, f, h4, b5, R5, (f3.trans Fr.app).trans (Ext.fr p5)⟩
    subst e
    obtain ⟨sc, ns, i', a', b', q, _⟩ := R5
    rw [b5] at q
    cases q
end Lw


namespace Lw
open PySem L2 RP
/-! ### rows that turn -/
theorem emod_shift (a b w : Int) : (a % w - b) % w = (a - b) % w := by
  have e : a % w - b = (a - b) + w * (-(a / w)) := by
    have := Int.emod_add_mul_ediv a w
    rw [Int.mul_neg]
    omega
  rw [e, Int.add_mul_emod_self_left]
theorem emod_period (a c s w : Int) : (a - (c + w) * s) % w = (a - c * s) % w := by
  have e : a - (c + w) * s = (a - c * s) + w * (-s) := by
    rw [Int.add_mul, Int.mul_neg]
    omega
  rw [e, Int.add_mul_emod_self_left]
/-- what stands in cell x after c rakes -/
def sig (l : List Nat) (ss : List Int) (w : Nat) (c : Int) (x : Nat) : Nat := l.getD (x / w * w + ((((x % w : Nat) : Int) - c * ss.getD (x / w) 0) % (w : Int)).toNat) 0
theorem sig_period (l : List Nat) (ss : List Int) (w : Nat) (c : Int) (x : Nat) : sig l ss w (c + w) x = sig l ss w c x := by
  unfold sig
  rw [emod_period]
theorem sig_zero {l : List Nat} {ss : List Int} {w x : Nat} (hw : 0 < w) : sig l ss w 0 x = l.getD x 0 := by
  unfold sig
  have h := Nat.mod_lt x hw
  have e : (((x % w : Nat) : Int) - 0 * ss.getD (x / w) 0) % (w : Int) = ((x % w : Nat) : Int) := by
    rw [Int.zero_mul, Int.sub_zero]
    exact Int.emod_eq_of_lt (by omega) (by omega)
  rw [e]
  have := Nat.div_add_mod' x w
  congr 1
theorem q_lt {a : Int} {w : Nat} (hw : 0 < w) : (a % (w : Int)).toNat < w := by
  have h1 := Int.emod_nonneg a (b := (w : Int)) (by omega)
  have h2 := Int.emod_lt_of_pos a (b := (w : Int)) (by omega)
  omega
/-- one rake more -/
theorem sig_step {l : List Nat} {ss : List Int} {w : Nat} (hw : 0 < w) (c : Int) (x : Nat) :
    sig l ss w c (x / w * w + ((((x % w : Nat) : Int) - ss.getD (x / w) 0) % (w : Int)).toNat) = sig l ss w (c + 1) x := by
  have hq := q_lt (a := ((x % w : Nat) : Int) - ss.getD (x / w) 0) hw
  have h0 := Int.emod_nonneg (((x % w : Nat) : Int) - ss.getD (x / w) 0) (b := (w : Int)) (by omega)
  generalize hQ : (((x % w : Nat) : Int) - ss.getD (x / w) 0) % (w : Int) = Q at hq h0 ⊢
  have e1 : (x / w * w + Q.toNat) / w = x / w := by
    rw [Nat.add_comm, Nat.add_mul_div_right _ _ hw, Nat.div_eq_of_lt hq, Nat.zero_add]
  have e2 : (x / w * w + Q.toNat) % w = Q.toNat := by
    rw [Nat.add_comm, Nat.add_mul_mod_self_right, Nat.mod_eq_of_lt hq]
  unfold sig
  rw [e1, e2]
  have e3 : ((Q.toNat : Nat) : Int) = Q := by omega
  rw [e3, ← hQ, emod_shift]
  have e4 : ((x % w : Nat) : Int) - ss.getD (x / w) 0 - c * ss.getD (x / w) 0 = ((x % w : Nat) : Int) - (c + 1) * ss.getD (x / w) 0 := by
    rw [Int.add_mul, Int.one_mul]
    omega
  rw [e4]
theorem kit_tup_tup : kitB "tuple" "tuple" = some true := by decide +kernel
theorem div_cast (x w : Nat) : (x : Int) / (w : Int) = ((x / w : Nat) : Int) := (Int.natCast_ediv x w).symm
theorem mod_nat (x w : Nat) : (x : Int) % (w : Int) = ((x % w : Nat) : Int) := (Int.natCast_emod x w).symm
theorem small_nat {n : Nat} (h : n < 1000) (x : Int) : (RP.small64 (n : Int) || RP.small64 x) = true := by
  have : RP.small64 (n : Int) = true := decide_eq_true ⟨by omega, by omega⟩
  rw [this]; rfl
theorem small_nat2 {n : Nat} (h : n < 1000) (x : Int) : (RP.small64 x || RP.small64 (n : Int)) = true := by
  have : RP.small64 (n : Int) = true := decide_eq_true ⟨by omega, by omega⟩
  rw [this]; simp
theorem len_ok {S : Sto} {i : Nat} {w h : Int} {l : List Nat} (f : Fits w h l) (b : IsBath S i w h (txt l)) : lenOwnM 5 g_BathD_lenD [.ref i] S = .ok (.int l.length) S := by
  have hl : l.length ≤ 12 := by
    have := f.wh
    have := f.len
    omega
  have hz2 := sizeLine_big
  have e1 : (txt l).length = l.length := txt_len l
  obtain ⟨a, S', e, rfl, rfl⟩ := Ho.ex (show Ho (g_BathD_lenD [.ref i] S) (fun v S' => v = .int l.length ∧ S' = S) noX by
    unfold g_BathD_lenD
    have e2 : atI [W.int w, .int h, .str (txt l)] 2 = some (.str (txt l)) := rfl
    simp only [ho_ok, ho_ret, ho_bd, ho_bdI, ho_bdO, hos_nx, hos_rt, hos_bk, hos_ct, hos_onx, hos_ort, hos_exS, hos_exT, hos_exA, hos_exI, nxt_nx, nxt_rt, nxt_bk, nxt_ct, hos_seq, hos_asg, fin_nx, fin_rt, ho_body1, ho_body2, ho_body3, ho_body4, ho_meth, ho_bm, ho_prop, ho_if, hos_if, ho_and, ho_or, ho_andT, ho_orT, ho_ite, ho_chain, ret_d, ngW_b, blM_b, truM_b, getSl_0, getSl_s, lstM_d, tupM_d, add_ii, add_ss, sub_ii, mul_ii, fdiv_ii, mod_ii, pow_ii, lt_ii, le_ii, gt_ii, ge_ii, eq_ii, ne_ii, eq_ss, ne_ss, intM_i, lenM_t, ixM_t, seqV_s, seqV_t, partM_i, in_1, List.length_cons, List.length_nil, List.length_singleton, List.map_cons, List.map_nil, List.cons_append, List.nil_append, List.set_cons_zero, List.set_cons_succ, List.replicate_succ, List.replicate_zero, List.append_nil, Nat.reduceAdd, Nat.reduceSub, Nat.zero_add, Nat.sub_self, Nat.reduceEqDiff, Nat.reduceLeDiff, if_true, if_false, ite_true, ite_false, reduceIte, decide_true, decide_false, Bool.not_true, Bool.not_false, true_and, and_true, r_BathD_lenD, b.fld, e2, lenM_s, e1]
    omega)
  have hb : (0 : Int) ≤ (l.length : Int) ∧ (l.length : Int) < 2 ^ 63 := ⟨by omega, by omega⟩
  simp only [lenOwnM, b.cls, e, hb, if_true, and_self]
theorem one_eq (a c : Nat) : decide ((⟨#[a]⟩ : Str) = one c) = decide (a = c) := by
  unfold one
  by_cases h : a = c
  · subst h; simp
  · simp [h]
theorem rng_at {n N : Nat} {u : W} (hw : ((List.range (N : Int).toNat).map fun (i : Nat) => W.int i)[n]? = some u) : n < N ∧ u = .int n := by
  have h : n < N := by
    have := (List.getElem?_eq_some_iff.mp hw).1
    simpa using this
  refine ⟨h, ?_⟩
  rw [List.getElem?_map, List.getElem?_range (by simpa using h)] at hw
  exact (Option.some.inj hw).symm
theorem ixN_at {n j : Nat} (hj : j < n) : ixN n (j : Int) = some j := by
  unfold ixN
  rw [if_pos (by omega), if_pos (by omega)]
  simp
theorem pre_put {S S' : Sto} {u : Ob} (e : S <+: S') : S <+: S'.set S.length u := by
  rw [List.prefix_iff_getElem?]
  intro i hi
  rw [List.getElem?_set_ne (by omega)]
  exact Ext.get e (List.getElem?_eq_getElem hi)
theorem Fits.nat {w h : Int} {l : List Nat} (f : Fits w h l) : ∃ wn hn : Nat, w = wn ∧ h = hn := by
  have := f.w1
  have := f.h1
  exact ⟨w.toNat, h.toNat, by omega, by omega⟩
section
variable {S : Sto} {i : Nat} {wn hn : Nat} {l : List Nat} {ss : List Int} {x c : Nat}
theorem are_strides_ok (hl : ss.length = hn) (hh : hn ≤ 5) (hs : ∀ s ∈ ss, -9 ≤ s ∧ s ≤ 9) (S : Sto) : Ho (g_are_strides [.tup (ss.map W.int), .int hn] S) (fun v S' => v = .bl true ∧ S <+: S') noX := by
  have hz2 := sizeLine_big
  have e0 : (((ss.map W.int).length : Nat) : Int) = (hn : Int) := by rw [List.length_map, hl]
  unfold g_are_strides
  simp only [ho_ok, ho_ret, ho_bd, ho_bdI, ho_bdO, hos_nx, hos_rt, hos_bk, hos_ct, hos_onx, hos_ort, hos_exS, hos_exT, hos_exA, hos_exI, nxt_nx, nxt_rt, nxt_bk, nxt_ct, hos_seq, hos_asg, fin_nx, fin_rt, ho_body1, ho_body2, ho_body3, ho_body4, ho_meth, ho_bm, ho_prop, ho_if, hos_if, ho_and, ho_or, ho_andT, ho_orT, ho_ite, ho_chain, ret_d, ngW_b, blM_b, truM_b, getSl_0, getSl_s, lstM_d, tupM_d, add_ii, add_ss, sub_ii, mul_ii, fdiv_ii, mod_ii, pow_ii, lt_ii, le_ii, gt_ii, ge_ii, eq_ii, ne_ii, eq_ss, ne_ss, intM_i, lenM_t, ixM_t, seqV_s, seqV_t, partM_i, in_1, List.length_cons, List.length_nil, List.length_singleton, List.map_cons, List.map_nil, List.cons_append, List.nil_append, List.set_cons_zero, List.set_cons_succ, List.replicate_succ, List.replicate_zero, List.append_nil, Nat.reduceAdd, Nat.reduceSub, Nat.zero_add, Nat.sub_self, Nat.reduceEqDiff, Nat.reduceLeDiff, if_true, if_false, ite_true, ite_false, reduceIte, decide_true, decide_false, Bool.not_true, Bool.not_false, true_and, and_true, r_are_strides, isiM, tyN, kit_tup_tup, e0]
  refine ho_lc (ws := ss.map W.int) (fun n acc S' => S' = S ∧ acc = ((ss.take n).map fun _ => W.bl true)) ⟨rfl, rfl⟩ (fun _ _ _ _ => rfl) (fun n u acc S' hw hp => ?_) fun acc S' hp => ?_
  · obtain ⟨rfl, rfl⟩ := hp
    rw [List.getElem?_map] at hw
    cases q : ss[n]? with
    | none => rw [q] at hw; cases hw
    | some s =>
      rw [q] at hw
      cases hw
      obtain ⟨h1, h2⟩ := hs s (List.mem_of_getElem? q)
      have h1' : (0 : Int) - 9 ≤ s := by omega
      simp only [ho_ok, ho_ret, ho_bd, ho_bdI, ho_bdO, hos_nx, hos_rt, hos_bk, hos_ct, hos_onx, hos_ort, hos_exS, hos_exT, hos_exA, hos_exI, nxt_nx, nxt_rt, nxt_bk, nxt_ct, hos_seq, hos_asg, fin_nx, fin_rt, ho_body1, ho_body2, ho_body3, ho_body4, ho_meth, ho_bm, ho_prop, ho_if, hos_if, ho_and, ho_or, ho_andT, ho_orT, ho_ite, ho_chain, ret_d, ngW_b, blM_b, truM_b, getSl_0, getSl_s, lstM_d, tupM_d, add_ii, add_ss, sub_ii, mul_ii, fdiv_ii, mod_ii, pow_ii, lt_ii, le_ii, gt_ii, ge_ii, eq_ii, ne_ii, eq_ss, ne_ss, intM_i, lenM_t, ixM_t, seqV_s, seqV_t, partM_i, in_1, List.length_cons, List.length_nil, List.length_singleton, List.map_cons, List.map_nil, List.cons_append, List.nil_append, List.set_cons_zero, List.set_cons_succ, List.replicate_succ, List.replicate_zero, List.append_nil, Nat.reduceAdd, Nat.reduceSub, Nat.zero_add, Nat.sub_self, Nat.reduceEqDiff, Nat.reduceLeDiff, if_true, if_false, ite_true, ite_false, reduceIte, decide_true, decide_false, Bool.not_true, Bool.not_false, true_and, and_true, Tgt.g, wipeS, is_number_int, h1', h2]
      refine ⟨by simp; omega, ?_⟩
      rw [List.take_add_one, q]; simp
  · obtain ⟨rfl, rfl⟩ := hp
    rw [List.length_map, List.take_length]
    have hb : bools (ss.map fun _ => W.bl true) = some (ss.map fun _ => true) := bools_map (fun _ => true) _
    simp only [ho_ok, ho_ret, ho_bd, ho_bdI, ho_bdO, hos_nx, hos_rt, hos_bk, hos_ct, hos_onx, hos_ort, hos_exS, hos_exT, hos_exA, hos_exI, nxt_nx, nxt_rt, nxt_bk, nxt_ct, hos_seq, hos_asg, fin_nx, fin_rt, ho_body1, ho_body2, ho_body3, ho_body4, ho_meth, ho_bm, ho_prop, ho_if, hos_if, ho_and, ho_or, ho_andT, ho_orT, ho_ite, ho_chain, ret_d, ngW_b, blM_b, truM_b, getSl_0, getSl_s, lstM_d, tupM_d, add_ii, add_ss, sub_ii, mul_ii, fdiv_ii, mod_ii, pow_ii, lt_ii, le_ii, gt_ii, ge_ii, eq_ii, ne_ii, eq_ss, ne_ss, intM_i, lenM_t, ixM_t, seqV_s, seqV_t, partM_i, in_1, List.length_cons, List.length_nil, List.length_singleton, List.map_cons, List.map_nil, List.cons_append, List.nil_append, List.set_cons_zero, List.set_cons_succ, List.replicate_succ, List.replicate_zero, List.append_nil, Nat.reduceAdd, Nat.reduceSub, Nat.zero_add, Nat.sub_self, Nat.reduceEqDiff, Nat.reduceLeDiff, if_true, if_false, ite_true, ite_false, reduceIte, decide_true, decide_false, Bool.not_true, Bool.not_false, true_and, and_true, allM_r (seq_lst (get_last (S := S') (o := .lst (ss.map fun _ => W.bl true)))) hb]
    exact ⟨by simp, ⟨_, rfl⟩⟩
end
def nums (cs : List Nat) : List W := cs.map fun (c : Nat) => W.int c
def tupN (o : List Nat) : W := .tup (nums o)
theorem nums_len (cs : List Nat) : (nums cs).length = cs.length := by simp [nums]
theorem nums_get {cs : List Nat} {n c : Nat} (h : cs[n]? = some c) : (nums cs)[n]? = some (.int (c : Nat)) := by
  unfold nums
  rw [List.getElem?_map, h]
  rfl
theorem nums_at {cs : List Nat} {n : Nat} {u : W} (h : (nums cs)[n]? = some u) : ∃ c, cs[n]? = some c ∧ u = .int (c : Nat) := by
  unfold nums at h
  rw [List.getElem?_map] at h
  cases q : cs[n]? with
  | none => rw [q] at h; cases h
  | some c => rw [q] at h; exact ⟨c, rfl, (Option.some.inj h).symm⟩
theorem nums_app (a b : List Nat) : nums (a ++ b) = nums a ++ nums b := by simp [nums]
section
variable {S : Sto} {i j n : Nat} {α : Type} {f : α → W} {g : α → PyData} {l : List α}
theorem ne_nil (h : S[i]? = some (.lst (l.map f))) (hd : ∀ a ∈ l, Dm n S (f a) (g a)) (hn : n ≤ 8) (h' : S[j]? = some (.lst [])) : pyNe (.ref i) (.ref j) S = .ok (.bl (!l.isEmpty)) S :=
  ((Dm.lst h hd).at9 (by omega)).ne ((Dm.nil (n := 0) h').at9 (by omega)) (by rw [eqv_nil]; cases l <;> rfl)
theorem eq_nil (h : S[i]? = some (.lst (l.map f))) (hd : ∀ a ∈ l, Dm n S (f a) (g a)) (hn : n ≤ 8) (h' : S[j]? = some (.lst [])) : pyEq (.ref i) (.ref j) S = .ok (.bl (l.isEmpty)) S :=
  ((Dm.lst h hd).at9 (by omega)).eq ((Dm.nil (n := 0) h').at9 (by omega)) (by rw [eqv_nil]; cases l <;> rfl)
end
theorem nums_dm {S : Sto} {n : Nat} (cs : List Nat) : Dm (n + 1) S (.tup (nums cs)) (.tuple (cs.map fun (c : Nat) => PyData.int c)) := Dm.tup fun a _ => Dm.int a
theorem ne_nums0 {S : Sto} {i j : Nat} {cs : List Nat} (h : S[i]? = some (.lst (nums cs))) (h' : S[j]? = some (.lst [])) : pyNe (.ref i) (.ref j) S = .ok (.bl (!cs.isEmpty)) S :=
  ne_nil (n := 0) (g := fun (c : Nat) => PyData.int c) h (fun a _ => Dm.int a) (by omega) h'
theorem map_at {α : Type} {f : α → W} {l : List α} {n : Nat} {u : W} (h : (l.map f)[n]? = some u) : ∃ a, l[n]? = some a ∧ u = f a := by
  rw [List.getElem?_map] at h
  cases q : l[n]? with
  | none => rw [q] at h; cases h
  | some c => rw [q] at h; exact ⟨c, rfl, (Option.some.inj h).symm⟩
theorem zipV_tt {S : Sto} (xs ys : List W) : zipV [.tup xs, .tup ys] S = .ok (fun _ => some (zipL xs ys)) S := rfl
theorem zipV_ts {S : Sto} (xs : List W) (y : Str) : zipV [.tup xs, .str y] S = .ok (fun _ => some (zipL xs (y.cps.toList.map fun n => W.str ⟨#[n]⟩))) S := rfl
theorem cut_tail {α : Type} (xs : List α) (h : xs ≠ []) : cutL xs (some 1) none = xs.drop 1 := by
  unfold cutL
  have e1 : HT.sIx xs.length 0 (some 1) = 1 := by
    have := HT.sIx_nat xs.length 0 1
    have hl : 0 < xs.length := List.length_pos_iff.mpr h
    rw [show ((1 : Nat) : Int) = 1 from rfl] at this
    rw [this]
    omega
  have e2 : HT.sIx xs.length xs.length none = xs.length := rfl
  rw [e1, e2, List.take_of_length_le]
  simp
theorem tup_ne0 {S : Sto} {cs : List Nat} (h : cs ≠ []) : pyEq (.tup (nums cs)) (.tup []) S = .ok (.bl false) S :=
  ((nums_dm (n := 0) cs).at9 (by omega)).eq ((nums_dm (n := 0) []).at9 (by omega)) (by
    rw [PyData.eqv]
    cases cs with
    | nil => exact absurd rfl h
    | cons c cs => rfl)
theorem are_cells_ok {cs : List Nat} {n : Nat} (h0 : cs ≠ []) (h1 : cs.Pairwise (· < ·)) (h2 : ∀ c ∈ cs, c < n) (hl : cs.length ≤ 12) (S : Sto) : Ho (g_are_cells [.int n, .tup (nums cs)] S) (fun v S' => v = .bl true ∧ S <+: S') noX := by
  have hz2 := sizeLine_big
  have z0 : (0 : Nat) ≤ sizeLine := Nat.zero_le _
  unfold g_are_cells
  simp only [ho_ok, ho_ret, ho_bd, ho_bdI, ho_bdO, hos_nx, hos_rt, hos_bk, hos_ct, hos_onx, hos_ort, hos_exS, hos_exT, hos_exA, hos_exI, nxt_nx, nxt_rt, nxt_bk, nxt_ct, hos_seq, hos_asg, fin_nx, fin_rt, ho_body1, ho_body2, ho_body3, ho_body4, ho_meth, ho_bm, ho_prop, ho_if, hos_if, ho_and, ho_or, ho_andT, ho_orT, ho_ite, ho_chain, ret_d, ngW_b, blM_b, truM_b, getSl_0, getSl_s, lstM_d, tupM_d, add_ii, add_ss, sub_ii, mul_ii, fdiv_ii, mod_ii, pow_ii, lt_ii, le_ii, gt_ii, ge_ii, eq_ii, ne_ii, eq_ss, ne_ss, intM_i, lenM_t, ixM_t, seqV_s, seqV_t, partM_i, in_1, List.length_cons, List.length_nil, List.length_singleton, List.map_cons, List.map_nil, List.cons_append, List.nil_append, List.set_cons_zero, List.set_cons_succ, List.replicate_succ, List.replicate_zero, List.append_nil, Nat.reduceAdd, Nat.reduceSub, Nat.zero_add, Nat.sub_self, Nat.reduceEqDiff, Nat.reduceLeDiff, if_true, if_false, ite_true, ite_false, reduceIte, decide_true, decide_false, Bool.not_true, Bool.not_false, true_and, and_true, r_are_cells, isiM, tyN, kit_tup_tup, z0, tup_ne0 h0]
  refine ho_lc (ws := nums cs) (fun n acc S' => S' = S ∧ acc = ((cs.take n).map fun _ => W.bl true)) ⟨rfl, rfl⟩ (fun _ _ _ _ => rfl) (fun k u acc S' hw hp => ?_) fun acc S' hp => ?_
  · obtain ⟨rfl, rfl⟩ := hp
    obtain ⟨c, hc, rfl⟩ := nums_at hw
    have h3 : (0 : Int) ≤ (c : Int) := by omega
    have h4 : (c : Int) ≤ (n : Int) - 1 := by
      have := h2 c (List.mem_of_getElem? hc)
      omega
    simp only [ho_ok, ho_ret, ho_bd, ho_bdI, ho_bdO, hos_nx, hos_rt, hos_bk, hos_ct, hos_onx, hos_ort, hos_exS, hos_exT, hos_exA, hos_exI, nxt_nx, nxt_rt, nxt_bk, nxt_ct, hos_seq, hos_asg, fin_nx, fin_rt, ho_body1, ho_body2, ho_body3, ho_body4, ho_meth, ho_bm, ho_prop, ho_if, hos_if, ho_and, ho_or, ho_andT, ho_orT, ho_ite, ho_chain, ret_d, ngW_b, blM_b, truM_b, getSl_0, getSl_s, lstM_d, tupM_d, add_ii, add_ss, sub_ii, mul_ii, fdiv_ii, mod_ii, pow_ii, lt_ii, le_ii, gt_ii, ge_ii, eq_ii, ne_ii, eq_ss, ne_ss, intM_i, lenM_t, ixM_t, seqV_s, seqV_t, partM_i, in_1, List.length_cons, List.length_nil, List.length_singleton, List.map_cons, List.map_nil, List.cons_append, List.nil_append, List.set_cons_zero, List.set_cons_succ, List.replicate_succ, List.replicate_zero, List.append_nil, Nat.reduceAdd, Nat.reduceSub, Nat.zero_add, Nat.sub_self, Nat.reduceEqDiff, Nat.reduceLeDiff, if_true, if_false, ite_true, ite_false, reduceIte, decide_true, decide_false, Bool.not_true, Bool.not_false, true_and, and_true, Tgt.g, wipeS, is_number_int, h3, h4]
    refine ⟨by simp; omega, ?_⟩
    rw [List.take_add_one, hc]; simp
  · obtain ⟨rfl, rfl⟩ := hp
    rw [nums_len, List.take_length]
    have hb : bools (cs.map fun _ => W.bl true) = some (cs.map fun _ => true) := bools_map (fun _ => true) _
    have hall : (cs.map fun _ => true).all id = true := by simp
    simp only [ho_ok, ho_ret, ho_bd, ho_bdI, ho_bdO, hos_nx, hos_rt, hos_bk, hos_ct, hos_onx, hos_ort, hos_exS, hos_exT, hos_exA, hos_exI, nxt_nx, nxt_rt, nxt_bk, nxt_ct, hos_seq, hos_asg, fin_nx, fin_rt, ho_body1, ho_body2, ho_body3, ho_body4, ho_meth, ho_bm, ho_prop, ho_if, hos_if, ho_and, ho_or, ho_andT, ho_orT, ho_ite, ho_chain, ret_d, ngW_b, blM_b, truM_b, getSl_0, getSl_s, lstM_d, tupM_d, add_ii, add_ss, sub_ii, mul_ii, fdiv_ii, mod_ii, pow_ii, lt_ii, le_ii, gt_ii, ge_ii, eq_ii, ne_ii, eq_ss, ne_ss, intM_i, lenM_t, ixM_t, seqV_s, seqV_t, partM_i, in_1, List.length_cons, List.length_nil, List.length_singleton, List.map_cons, List.map_nil, List.cons_append, List.nil_append, List.set_cons_zero, List.set_cons_succ, List.replicate_succ, List.replicate_zero, List.append_nil, Nat.reduceAdd, Nat.reduceSub, Nat.zero_add, Nat.sub_self, Nat.reduceEqDiff, Nat.reduceLeDiff, if_true, if_false, ite_true, ite_false, reduceIte, decide_true, decide_false, Bool.not_true, Bool.not_false, true_and, and_true, allM_r (seq_lst (get_last (S := S') (o := .lst (cs.map fun _ => W.bl true)))) hb, hall, sliceM, cut_tail (nums cs) (by simpa [nums] using h0), zipV_tt]
    generalize hS2 : S' ++ [Ob.lst (cs.map fun _ => W.bl true)] = S2
    refine ho_lc (ws := zipL (nums cs) ((nums cs).drop 1)) (fun n acc S3 => S3 = S2 ∧ acc = ((List.range n).map fun _ => W.bl true) ∧ n ≤ cs.length) ⟨rfl, rfl, by omega⟩ (fun _ _ _ _ => rfl) (fun k u acc S3 hw hp => ?_) fun acc S3 hp => ?_
    · obtain ⟨rfl, rfl, hk⟩ := hp
      obtain ⟨a, b, ha, hb, rfl⟩ := zipL_get _ _ _ hw
      rw [List.getElem?_drop] at hb
      obtain ⟨a, ha', rfl⟩ := nums_at ha
      obtain ⟨b, hb', rfl⟩ := nums_at hb
      have hab : (a : Int) < (b : Int) := by
        obtain ⟨k1, e1⟩ := List.getElem?_eq_some_iff.mp ha'
        obtain ⟨k2, e2⟩ := List.getElem?_eq_some_iff.mp hb'
        have := List.pairwise_iff_getElem.mp h1 k (1 + k) k1 k2 (by omega)
        rw [e1, e2] at this
        omega
      have hk1 := (List.getElem?_eq_some_iff.mp ha').1
      simp only [ho_ok, ho_ret, ho_bd, ho_bdI, ho_bdO, hos_nx, hos_rt, hos_bk, hos_ct, hos_onx, hos_ort, hos_exS, hos_exT, hos_exA, hos_exI, nxt_nx, nxt_rt, nxt_bk, nxt_ct, hos_seq, hos_asg, fin_nx, fin_rt, ho_body1, ho_body2, ho_body3, ho_body4, ho_meth, ho_bm, ho_prop, ho_if, hos_if, ho_and, ho_or, ho_andT, ho_orT, ho_ite, ho_chain, ret_d, ngW_b, blM_b, truM_b, getSl_0, getSl_s, lstM_d, tupM_d, add_ii, add_ss, sub_ii, mul_ii, fdiv_ii, mod_ii, pow_ii, lt_ii, le_ii, gt_ii, ge_ii, eq_ii, ne_ii, eq_ss, ne_ss, intM_i, lenM_t, ixM_t, seqV_s, seqV_t, partM_i, in_1, List.length_cons, List.length_nil, List.length_singleton, List.map_cons, List.map_nil, List.cons_append, List.nil_append, List.set_cons_zero, List.set_cons_succ, List.replicate_succ, List.replicate_zero, List.append_nil, Nat.reduceAdd, Nat.reduceSub, Nat.zero_add, Nat.sub_self, Nat.reduceEqDiff, Nat.reduceLeDiff, if_true, if_false, ite_true, ite_false, reduceIte, decide_true, decide_false, Bool.not_true, Bool.not_false, true_and, and_true, Tgt.g, wipeS, setAll, hab]
      refine ⟨by simp; omega, rfl, ?_, by omega⟩
      rw [List.range_succ, List.map_append, decide_eq_true hab]; rfl
    · obtain ⟨rfl, rfl, hk⟩ := hp
      generalize (zipL (nums cs) ((nums cs).drop 1)).length = m
      have hb2 : bools ((List.range m).map fun _ => W.bl true) = some ((List.range m).map fun _ => true) := bools_map (fun _ => true) _
      have hall2 : ((List.range m).map fun _ => true).all id = true := by simp
      simp only [ho_ok, ho_ret, ho_bd, ho_bdI, ho_bdO, hos_nx, hos_rt, hos_bk, hos_ct, hos_onx, hos_ort, hos_exS, hos_exT, hos_exA, hos_exI, nxt_nx, nxt_rt, nxt_bk, nxt_ct, hos_seq, hos_asg, fin_nx, fin_rt, ho_body1, ho_body2, ho_body3, ho_body4, ho_meth, ho_bm, ho_prop, ho_if, hos_if, ho_and, ho_or, ho_andT, ho_orT, ho_ite, ho_chain, ret_d, ngW_b, blM_b, truM_b, getSl_0, getSl_s, lstM_d, tupM_d, add_ii, add_ss, sub_ii, mul_ii, fdiv_ii, mod_ii, pow_ii, lt_ii, le_ii, gt_ii, ge_ii, eq_ii, ne_ii, eq_ss, ne_ss, intM_i, lenM_t, ixM_t, seqV_s, seqV_t, partM_i, in_1, List.length_cons, List.length_nil, List.length_singleton, List.map_cons, List.map_nil, List.cons_append, List.nil_append, List.set_cons_zero, List.set_cons_succ, List.replicate_succ, List.replicate_zero, List.append_nil, Nat.reduceAdd, Nat.reduceSub, Nat.zero_add, Nat.sub_self, Nat.reduceEqDiff, Nat.reduceLeDiff, if_true, if_false, ite_true, ite_false, reduceIte, decide_true, decide_false, Bool.not_true, Bool.not_false, true_and, and_true, allM_r (seq_lst (get_last (S := S3) (o := .lst ((List.range m).map fun _ => W.bl true)))) hb2, hall2]
      rw [← hS2]
      exact (List.prefix_append _ _).trans (List.prefix_append _ _)
theorem tl_small {lin : List Nat} (h : lin.length ≤ 12) : (txt lin).length ≤ sizeLine := by
  have := sizeLine_big
  rw [txt_len]
  omega
theorem getD_at {l : List Nat} {n : Nat} (h : n < l.length) : l[n]? = some (l.getD n 0) := by
  rw [List.getD_eq_getElem?_getD, List.getElem?_eq_getElem h]
  rfl
theorem pre_put2 {S S' : Sto} {i : Nat} {u : Ob} (e : S <+: S') (h : S.length ≤ i) : S <+: S'.set i u := by
  rw [List.prefix_iff_getElem?]
  intro j hj
  rw [List.getElem?_set_ne (by omega)]
  exact Ext.get e (List.getElem?_eq_getElem hj)
theorem pyIs_non {S : Sto} (w : W) : pyIs w .non S = .ok (.bl (RP.isNon w)) S := rfl
theorem isNon_i (i : Int) : RP.isNon (.int i) = false := rfl
theorem isNon_n : RP.isNon .non = true := rfl
def sgW (l : List Nat) : List W := l.map fun n => W.str ⟨#[n]⟩
theorem pre_fr {S S1 S2 : Sto} {t : Nat} (e : S <+: S1) (f : Fr t S1 S2) (h : S.length ≤ t) : S <+: S2 := by
  rw [List.prefix_iff_getElem?]
  intro j hj
  exact f.get j _ (by omega) (Ext.get e (List.getElem?_eq_getElem hj))
theorem Fits.natLen {w h : Nat} {l : List Nat} (f : Fits (w : Int) (h : Int) l) : l.length = w * h := by
  have := f.len
  rw [← Int.natCast_mul] at this
  omega
theorem tyN_str {S : Sto} (x : Str) : tyN S (.str x) = some "str" := rfl
theorem enumV_t {S : Sto} (xs : List W) : enumV [.tup xs] S = .ok (fun _ => some (enumL xs)) S := rfl
theorem nums_in {S : Sto} (cs : List Nat) (x : Nat) : pyIn (.int x) (.tup (nums cs)) S = .ok (.bl (decide (x ∈ cs))) S := by
  have e : inF (.int x) (nums cs) = some (decide (x ∈ cs)) := by
    unfold inF nums
    have h1 : (cs.map fun (c : Nat) => W.int c).all flatW = true := by
      rw [List.all_map, List.all_eq_true]
      intro a _
      rfl
    rw [h1]
    show some ((cs.map fun (c : Nat) => W.int c).any fun y => eqF y (.int x)) = _
    congr 1
    rw [List.any_map, Bool.eq_iff_iff, List.any_eq_true, decide_eq_true_eq]
    constructor
    · rintro ⟨b, hb, e⟩
      have e : ((b : Int) == (x : Int)) = true := e
      have : b = x := by
        have := beq_iff_eq.mp e
        omega
      rw [← this]; exact hb
    · intro ha
      refine ⟨x, ha, ?_⟩
      show ((x : Int) == (x : Int)) = true
      simp
  show (match inF (.int x) (nums cs) with | some b => Res.ok (W.bl b) S | none => .bad) = _
  rw [e]
theorem sgW_get {l : List Nat} {x : Nat} (h : x < l.length) : (sgW l)[x]? = some (.str ⟨#[l.getD x 0]⟩) := by
  unfold sgW
  rw [List.getElem?_map, getD_at h]
  rfl
theorem enumV_r {S : Sto} {q : Nat} {xs : List W} (h : seqOf S q = some xs) : enumV [.ref q] S = .ok (fun S => (seqOf S q).map enumL) S := by
  show (match seqV (.ref q) S with | .ok v S' => Res.ok (fun S => (v S).map enumL) S' | .ex x S' => .ex x S' | .bad => .bad) = _
  rw [seqV_r h]
section
variable {S : Sto}
theorem Dm.tup2 {n : Nat} {a b : W} {d e : PyData} (h1 : Dm n S a d) (h2 : Dm n S b e) : Dm (n + 1) S (.tup [a, b]) (.tuple [d, e]) := by
  have := Dm.tup (S := S) (n := n) (f := fun (x : Bool) => if x then a else b) (g := fun (x : Bool) => if x then d else e) (l := [true, false]) (fun x hx => by cases x <;> assumption)
  exact this
end
theorem join_sg {S : Sto} {q : Nat} {l : List Nat} (h : S[q]? = some (.lst (sgW l))) (hl : l.length ≤ 12) : joinM (.str (Str.ofString "")) [.ref q] S = .ok (.str (txt l)) S := by
  have hz2 := sizeLine_big
  have e3 := joinM_r (a := Str.ofString "") (seq_lst h) (textsOf_map one l) (by
    rw [sum_ones, List.length_map]
    have : (Str.ofString "").length = 0 := by decide +kernel
    rw [this]
    omega)
  rw [join_txt] at e3
  exact e3
end Lw


namespace Lw
open PySem L2 RP
theorem some_ok {S : Sto} {r : Nat} (R : Row S r) (n : Nat) (h0 : 0 < n) (hn : n ≤ 12) : Ho (g__law_some [.ref r, .int n] S) (fun v S' => ∃ cs : List Nat, v = .tup (nums cs) ∧ cs ≠ [] ∧ cs.Pairwise (· < ·) ∧ (∀ c ∈ cs, c < n) ∧ cs.length ≤ n ∧ Row S' r ∧ Fr r S S') noX := by
  have rb : -(2 ^ 62) ≤ (n : Int) ∧ (n : Int) < 2 ^ 62 := ⟨by omega, by omega⟩
  have hz2 := sizeLine_big
  have z0 : (0 : Nat) ≤ sizeLine := Nat.zero_le _
  have z1 : (1 : Nat) ≤ sizeLine := by omega
  unfold g__law_some
  simp only [ho_ok, ho_ret, ho_bd, ho_bdI, ho_bdO, hos_nx, hos_rt, hos_bk, hos_ct, hos_onx, hos_ort, hos_exS, hos_exT, hos_exA, hos_exI, nxt_nx, nxt_rt, nxt_bk, nxt_ct, hos_seq, hos_asg, fin_nx, fin_rt, ho_body1, ho_body2, ho_body3, ho_body4, ho_meth, ho_bm, ho_prop, ho_if, hos_if, ho_and, ho_or, ho_andT, ho_orT, ho_ite, ho_chain, ret_d, ngW_b, blM_b, truM_b, getSl_0, getSl_s, lstM_d, tupM_d, add_ii, add_ss, sub_ii, mul_ii, fdiv_ii, mod_ii, pow_ii, lt_ii, le_ii, gt_ii, ge_ii, eq_ii, ne_ii, eq_ss, ne_ss, intM_i, lenM_t, ixM_t, seqV_s, seqV_t, partM_i, in_1, List.length_cons, List.length_nil, List.length_singleton, List.map_cons, List.map_nil, List.cons_append, List.nil_append, List.set_cons_zero, List.set_cons_succ, List.replicate_succ, List.replicate_zero, List.append_nil, Nat.reduceAdd, Nat.reduceSub, Nat.zero_add, Nat.sub_self, Nat.reduceEqDiff, Nat.reduceLeDiff, if_true, if_false, ite_true, ite_false, reduceIte, decide_true, decide_false, Bool.not_true, Bool.not_false, true_and, and_true, r__law_some, rng1_i, rb]
  refine ho_lc (ws := (List.range (n : Int).toNat).map fun (n : Nat) => W.int n) (fun j acc S' => (∃ cs : List Nat, acc = nums cs ∧ cs.Pairwise (· < ·) ∧ (∀ c ∈ cs, c < j) ∧ cs.length ≤ j) ∧ Row S' r ∧ Fr r S S') ⟨⟨[], rfl, by simp, by simp, by simp⟩, R, Fr.refl⟩ (fun _ _ _ _ => rfl) (fun j u acc S' hw hp => ?_) fun acc S' hp => ?_
  · obtain ⟨⟨cs, rfl, h1, h2, h3⟩, R1, f1⟩ := hp
    obtain ⟨hj, rfl⟩ := rng_at hw
    simp only [ho_ok, ho_ret, ho_bd, ho_bdI, ho_bdO, hos_nx, hos_rt, hos_bk, hos_ct, hos_onx, hos_ort, hos_exS, hos_exT, hos_exA, hos_exI, nxt_nx, nxt_rt, nxt_bk, nxt_ct, hos_seq, hos_asg, fin_nx, fin_rt, ho_body1, ho_body2, ho_body3, ho_body4, ho_meth, ho_bm, ho_prop, ho_if, hos_if, ho_and, ho_or, ho_andT, ho_orT, ho_ite, ho_chain, ret_d, ngW_b, blM_b, truM_b, getSl_0, getSl_s, lstM_d, tupM_d, add_ii, add_ss, sub_ii, mul_ii, fdiv_ii, mod_ii, pow_ii, lt_ii, le_ii, gt_ii, ge_ii, eq_ii, ne_ii, eq_ss, ne_ss, intM_i, lenM_t, ixM_t, seqV_s, seqV_t, partM_i, in_1, List.length_cons, List.length_nil, List.length_singleton, List.map_cons, List.map_nil, List.cons_append, List.nil_append, List.set_cons_zero, List.set_cons_succ, List.replicate_succ, List.replicate_zero, List.append_nil, Nat.reduceAdd, Nat.reduceSub, Nat.zero_add, Nat.sub_self, Nat.reduceEqDiff, Nat.reduceLeDiff, if_true, if_false, ite_true, ite_false, reduceIte, decide_true, decide_false, Bool.not_true, Bool.not_false, true_and, and_true, Tgt.g, wipeS]
    refine Ho.call (taken_ok R1 (by decide) (by decide)) ?_
    rintro v S2 ⟨a, rfl, a0, a1, R2, f2, _⟩
    by_cases ha : a = 0
    · simp only [ho_ok, ho_ret, ho_bd, ho_bdI, ho_bdO, hos_nx, hos_rt, hos_bk, hos_ct, hos_onx, hos_ort, hos_exS, hos_exT, hos_exA, hos_exI, nxt_nx, nxt_rt, nxt_bk, nxt_ct, hos_seq, hos_asg, fin_nx, fin_rt, ho_body1, ho_body2, ho_body3, ho_body4, ho_meth, ho_bm, ho_prop, ho_if, hos_if, ho_and, ho_or, ho_andT, ho_orT, ho_ite, ho_chain, ret_d, ngW_b, blM_b, truM_b, getSl_0, getSl_s, lstM_d, tupM_d, add_ii, add_ss, sub_ii, mul_ii, fdiv_ii, mod_ii, pow_ii, lt_ii, le_ii, gt_ii, ge_ii, eq_ii, ne_ii, eq_ss, ne_ss, intM_i, lenM_t, ixM_t, seqV_s, seqV_t, partM_i, in_1, List.length_cons, List.length_nil, List.length_singleton, List.map_cons, List.map_nil, List.cons_append, List.nil_append, List.set_cons_zero, List.set_cons_succ, List.replicate_succ, List.replicate_zero, List.append_nil, Nat.reduceAdd, Nat.reduceSub, Nat.zero_add, Nat.sub_self, Nat.reduceEqDiff, Nat.reduceLeDiff, if_true, if_false, ite_true, ite_false, reduceIte, decide_true, decide_false, Bool.not_true, Bool.not_false, true_and, and_true, ha]
      refine ⟨by rw [nums_len]; omega, ⟨cs ++ [j], by rw [nums_app]; rfl, ?_, ?_, by simp; omega⟩, R2, f1.trans f2⟩
      · rw [List.pairwise_append]
        exact ⟨h1, by simp, fun a ha b hb => by rw [List.mem_singleton.mp hb]; exact h2 a ha⟩
      · intro c hc
        rcases List.mem_append.mp hc with h | h
        · have := h2 c h
          omega
        · rw [List.mem_singleton.mp h]
          omega
    · simp only [ho_ok, ho_ret, ho_bd, ho_bdI, ho_bdO, hos_nx, hos_rt, hos_bk, hos_ct, hos_onx, hos_ort, hos_exS, hos_exT, hos_exA, hos_exI, nxt_nx, nxt_rt, nxt_bk, nxt_ct, hos_seq, hos_asg, fin_nx, fin_rt, ho_body1, ho_body2, ho_body3, ho_body4, ho_meth, ho_bm, ho_prop, ho_if, hos_if, ho_and, ho_or, ho_andT, ho_orT, ho_ite, ho_chain, ret_d, ngW_b, blM_b, truM_b, getSl_0, getSl_s, lstM_d, tupM_d, add_ii, add_ss, sub_ii, mul_ii, fdiv_ii, mod_ii, pow_ii, lt_ii, le_ii, gt_ii, ge_ii, eq_ii, ne_ii, eq_ss, ne_ss, intM_i, lenM_t, ixM_t, seqV_s, seqV_t, partM_i, in_1, List.length_cons, List.length_nil, List.length_singleton, List.map_cons, List.map_nil, List.cons_append, List.nil_append, List.set_cons_zero, List.set_cons_succ, List.replicate_succ, List.replicate_zero, List.append_nil, Nat.reduceAdd, Nat.reduceSub, Nat.zero_add, Nat.sub_self, Nat.reduceEqDiff, Nat.reduceLeDiff, if_true, if_false, ite_true, ite_false, reduceIte, decide_true, decide_false, Bool.not_true, Bool.not_false, true_and, and_true, ha]
      exact ⟨⟨cs, rfl, h1, fun c hc => Nat.lt_succ_of_lt (h2 c hc), by omega⟩, R2, f1.trans f2⟩
  · obtain ⟨⟨cs, rfl, h1, h2, h3⟩, R1, f1⟩ := hp
    have e : ((List.range (n : Int).toNat).map fun (n : Nat) => W.int n).length = n := by simp
    rw [e] at h2 h3
    have g1 : (S' ++ [Ob.lst (nums cs)] ++ [Ob.lst []])[S'.length]? = some (.lst (nums cs)) := get_app get_last
    have g2 : (S' ++ [Ob.lst (nums cs)] ++ [Ob.lst []])[(S' ++ [Ob.lst (nums cs)]).length]? = some (.lst []) := get_last
    have ne := ne_nums0 g1 g2
    have R2 := R1.fr (List.prefix_append S' [Ob.lst (nums cs)])
    have R3 := R2.fr (List.prefix_append _ [Ob.lst []])
    cases cs with
    | nil =>
      simp only [ho_ok, ho_ret, ho_bd, ho_bdI, ho_bdO, hos_nx, hos_rt, hos_bk, hos_ct, hos_onx, hos_ort, hos_exS, hos_exT, hos_exA, hos_exI, nxt_nx, nxt_rt, nxt_bk, nxt_ct, hos_seq, hos_asg, fin_nx, fin_rt, ho_body1, ho_body2, ho_body3, ho_body4, ho_meth, ho_bm, ho_prop, ho_if, hos_if, ho_and, ho_or, ho_andT, ho_orT, ho_ite, ho_chain, ret_d, ngW_b, blM_b, truM_b, getSl_0, getSl_s, lstM_d, tupM_d, add_ii, add_ss, sub_ii, mul_ii, fdiv_ii, mod_ii, pow_ii, lt_ii, le_ii, gt_ii, ge_ii, eq_ii, ne_ii, eq_ss, ne_ss, intM_i, lenM_t, ixM_t, seqV_s, seqV_t, partM_i, in_1, List.length_cons, List.length_nil, List.length_singleton, List.map_cons, List.map_nil, List.cons_append, List.nil_append, List.set_cons_zero, List.set_cons_succ, List.replicate_succ, List.replicate_zero, List.append_nil, Nat.reduceAdd, Nat.reduceSub, Nat.zero_add, Nat.sub_self, Nat.reduceEqDiff, Nat.reduceLeDiff, if_true, if_false, ite_true, ite_false, reduceIte, decide_true, decide_false, Bool.not_true, Bool.not_false, true_and, and_true, z0, ne, List.isEmpty_nil]
      refine Ho.call (taken_ok (m := (n : Int)) R3 (by omega) (by omega)) ?_
      rintro v S2 ⟨a, rfl, a0, a1, R4, f4, _⟩
      obtain ⟨a, rfl⟩ : ∃ n : Nat, a = n := ⟨a.toNat, by omega⟩
      simp only [ho_ok, ho_ret, ho_bd, ho_bdI, ho_bdO, hos_nx, hos_rt, hos_bk, hos_ct, hos_onx, hos_ort, hos_exS, hos_exT, hos_exA, hos_exI, nxt_nx, nxt_rt, nxt_bk, nxt_ct, hos_seq, hos_asg, fin_nx, fin_rt, ho_body1, ho_body2, ho_body3, ho_body4, ho_meth, ho_bm, ho_prop, ho_if, hos_if, ho_and, ho_or, ho_andT, ho_orT, ho_ite, ho_chain, ret_d, ngW_b, blM_b, truM_b, getSl_0, getSl_s, lstM_d, tupM_d, add_ii, add_ss, sub_ii, mul_ii, fdiv_ii, mod_ii, pow_ii, lt_ii, le_ii, gt_ii, ge_ii, eq_ii, ne_ii, eq_ss, ne_ss, intM_i, lenM_t, ixM_t, seqV_s, seqV_t, partM_i, in_1, List.length_cons, List.length_nil, List.length_singleton, List.map_cons, List.map_nil, List.cons_append, List.nil_append, List.set_cons_zero, List.set_cons_succ, List.replicate_succ, List.replicate_zero, List.append_nil, Nat.reduceAdd, Nat.reduceSub, Nat.zero_add, Nat.sub_self, Nat.reduceEqDiff, Nat.reduceLeDiff, if_true, if_false, ite_true, ite_false, reduceIte, decide_true, decide_false, Bool.not_true, Bool.not_false, true_and, and_true, z1]
      exact ⟨[a], rfl, by simp, by simp, by simp; omega, by simp; omega, R4, ((f1.trans Fr.app).trans Fr.app).trans f4⟩
    | cons c cs =>
      simp only [ho_ok, ho_ret, ho_bd, ho_bdI, ho_bdO, hos_nx, hos_rt, hos_bk, hos_ct, hos_onx, hos_ort, hos_exS, hos_exT, hos_exA, hos_exI, nxt_nx, nxt_rt, nxt_bk, nxt_ct, hos_seq, hos_asg, fin_nx, fin_rt, ho_body1, ho_body2, ho_body3, ho_body4, ho_meth, ho_bm, ho_prop, ho_if, hos_if, ho_and, ho_or, ho_andT, ho_orT, ho_ite, ho_chain, ret_d, ngW_b, blM_b, truM_b, getSl_0, getSl_s, lstM_d, tupM_d, add_ii, add_ss, sub_ii, mul_ii, fdiv_ii, mod_ii, pow_ii, lt_ii, le_ii, gt_ii, ge_ii, eq_ii, ne_ii, eq_ss, ne_ss, intM_i, lenM_t, ixM_t, seqV_s, seqV_t, partM_i, in_1, List.length_cons, List.length_nil, List.length_singleton, List.map_cons, List.map_nil, List.cons_append, List.nil_append, List.set_cons_zero, List.set_cons_succ, List.replicate_succ, List.replicate_zero, List.append_nil, Nat.reduceAdd, Nat.reduceSub, Nat.zero_add, Nat.sub_self, Nat.reduceEqDiff, Nat.reduceLeDiff, if_true, if_false, ite_true, ite_false, reduceIte, decide_true, decide_false, Bool.not_true, Bool.not_false, true_and, and_true, z0, ne, List.isEmpty_cons, tupleM_r (seq_lst g1)]
      exact ⟨c :: cs, rfl, by simp, h1, h2, h3, R3, (f1.trans Fr.app).trans Fr.app⟩
theorem sgW_len (l : List Nat) : (sgW l).length = l.length := by simp [sgW]
theorem sgW_set (l : List Nat) (c x : Nat) : (sgW l).set c (.str ⟨#[x]⟩) = sgW (l.set c x) := by
  unfold sgW
  rw [List.map_set]
theorem sgW_at {l : List Nat} {n : Nat} (h : n < l.length) : atI (sgW l) (n : Int) = some (.str (one (l.getD n 0))) := by
  refine atI_n ?_
  unfold sgW
  rw [List.getElem?_map, List.getD_eq_getElem?_getD, List.getElem?_eq_getElem h]
  rfl
theorem one_dot (c : Nat) : decide (one c = Str.ofString ".") = decide (c = 46) := by
  have e : Str.ofString "." = one 46 := by decide +kernel
  rw [e]
  exact one_eq c 46
theorem dot_one : Str.ofString "." = (⟨#[46]⟩ : Str) := by decide +kernel
section
variable {S : Sto} {i j : Nat} {w h : Int} {l o : List Nat}
theorem Fits.l12 (f : Fits w h l) : l.length ≤ 12 := by
  have := f.wh
  have := f.len
  omega
theorem Fits.like (f : Fits w h l) {m : List Nat} (hl : m.length = l.length) (hs : ∀ c ∈ m, c ∈ sgs) : Fits w h m := ⟨f.w1, f.w5, f.h1, f.h5, f.wh, by rw [hl]; exact f.len, hs⟩
theorem Fits.getD (f : Fits w h l) {n : Nat} (hn : n < l.length) : l.getD n 0 ∈ sgs := by
  rw [List.getD_eq_getElem?_getD, List.getElem?_eq_getElem hn]
  exact f.sg _ (List.getElem_mem hn)
theorem places_ok (f : Fits w h l) (b : IsBath S i w h (txt l)) {cs : List Nat} (h0 : cs ≠ []) (h1 : cs.Pairwise (· < ·)) (h2 : ∀ c ∈ cs, c < l.length) : Ho (g_check_places [.ref i, .tup (nums cs)] S) (fun v S' => v = .non ∧ S <+: S') noX := by
  have hl : cs.length ≤ 12 := by
    have := inc_sub_len h1 (range_inc l.length) fun c hc => List.mem_range.mpr (h2 c hc)
    rw [List.length_range] at this
    have := f.l12
    omega
  unfold g_check_places
  simp only [ho_ok, ho_ret, ho_bd, ho_bdI, ho_bdO, hos_nx, hos_rt, hos_bk, hos_ct, hos_onx, hos_ort, hos_exS, hos_exT, hos_exA, hos_exI, nxt_nx, nxt_rt, nxt_bk, nxt_ct, hos_seq, hos_asg, fin_nx, fin_rt, ho_body1, ho_body2, ho_body3, ho_body4, ho_meth, ho_bm, ho_prop, ho_if, hos_if, ho_and, ho_or, ho_andT, ho_orT, ho_ite, ho_chain, ret_d, ngW_b, blM_b, truM_b, getSl_0, getSl_s, lstM_d, tupM_d, add_ii, add_ss, sub_ii, mul_ii, fdiv_ii, mod_ii, pow_ii, lt_ii, le_ii, gt_ii, ge_ii, eq_ii, ne_ii, eq_ss, ne_ss, intM_i, lenM_t, ixM_t, seqV_s, seqV_t, partM_i, in_1, List.length_cons, List.length_nil, List.length_singleton, List.map_cons, List.map_nil, List.cons_append, List.nil_append, List.set_cons_zero, List.set_cons_succ, List.replicate_succ, List.replicate_zero, List.append_nil, Nat.reduceAdd, Nat.reduceSub, Nat.zero_add, Nat.sub_self, Nat.reduceEqDiff, Nat.reduceLeDiff, if_true, if_false, ite_true, ite_false, reduceIte, decide_true, decide_false, Bool.not_true, Bool.not_false, true_and, and_true, r_check_places, len_ok f b]
  refine Ho.call (are_cells_ok h0 h1 h2 hl S) ?_
  rintro v S1 ⟨rfl, p1⟩
  simp only [ho_ok, ho_ret, ho_bd, ho_bdI, ho_bdO, hos_nx, hos_rt, hos_bk, hos_ct, hos_onx, hos_ort, hos_exS, hos_exT, hos_exA, hos_exI, nxt_nx, nxt_rt, nxt_bk, nxt_ct, hos_seq, hos_asg, fin_nx, fin_rt, ho_body1, ho_body2, ho_body3, ho_body4, ho_meth, ho_bm, ho_prop, ho_if, hos_if, ho_and, ho_or, ho_andT, ho_orT, ho_ite, ho_chain, ret_d, ngW_b, blM_b, truM_b, getSl_0, getSl_s, lstM_d, tupM_d, add_ii, add_ss, sub_ii, mul_ii, fdiv_ii, mod_ii, pow_ii, lt_ii, le_ii, gt_ii, ge_ii, eq_ii, ne_ii, eq_ss, ne_ss, intM_i, lenM_t, ixM_t, seqV_s, seqV_t, partM_i, in_1, List.length_cons, List.length_nil, List.length_singleton, List.map_cons, List.map_nil, List.cons_append, List.nil_append, List.set_cons_zero, List.set_cons_succ, List.replicate_succ, List.replicate_zero, List.append_nil, Nat.reduceAdd, Nat.reduceSub, Nat.zero_add, Nat.sub_self, Nat.reduceEqDiff, Nat.reduceLeDiff, if_true, if_false, ite_true, ite_false, reduceIte, decide_true, decide_false, Bool.not_true, Bool.not_false, true_and, and_true]
  exact p1
end
theorem enumV_s {S : Sto} (x : Str) : enumV [.str x] S = .ok (fun _ => some (enumL (x.cps.toList.map fun n => W.str ⟨#[n]⟩))) S := rfl
theorem filt_t {α : Type} {p : α → Bool} {a : α} (h : p a = true) : List.filter p [a] = [a] := by rw [List.filter_cons_of_pos h]; rfl
theorem filt_f {α : Type} {p : α → Bool} {a : α} (h : p a = false) : List.filter p [a] = [] := by rw [List.filter_cons_of_neg (by rw [h]; decide)]; rfl
theorem str_at {l : List Nat} {n : Nat} (h : n < l.length) : atI l (n : Int) = some (l.getD n 0) := by
  refine atI_n ?_
  rw [List.getD_eq_getElem?_getD, List.getElem?_eq_getElem h]
  rfl
theorem one_ne (a c : Nat) : decide ((⟨#[a]⟩ : Str) = (⟨#[c]⟩ : Str)) = decide (a = c) := one_eq a c
theorem mk_dot (c : Nat) : decide ((⟨#[c]⟩ : Str) = Str.ofString ".") = decide (c = 46) := one_dot c
end Lw


namespace Lw
open PySem L2 RP
end Lw


namespace Lw
open PySem L2 RP
inductive Deed where
  | rake (ss : List Int)
  | comb (ss : List Int)
  | drop (c x : Nat)
  | paper (cs : List Nat)
def lets : List Nat := [97, 98, 99, 100, 101, 102, 103, 104, 105, 106, 107, 108, 109, 110, 111, 112, 113, 114, 115, 116, 117, 118, 119, 120, 121, 122]
def deedW : Deed → W
  | .rake ss => .tup [.str (Str.ofString "rake"), .tup (ss.map W.int)]
  | .comb ss => .tup [.str (Str.ofString "comb"), .tup (ss.map W.int)]
  | .drop c x => .tup [.str (Str.ofString "drop"), .int (c : Nat), .str (one x)]
  | .paper cs => .tup [.str (Str.ofString "paper"), .tup (nums cs)]
def Deed.Ok (w h : Nat) : Deed → Prop
  | .rake ss => ss.length = h ∧ ∀ s ∈ ss, -9 ≤ s ∧ s ≤ 9
  | .comb ss => ss.length = w ∧ ∀ s ∈ ss, -9 ≤ s ∧ s ≤ 9
  | .drop c x => c < w * h ∧ x ∈ lets
  | .paper cs => cs ≠ [] ∧ cs.Pairwise (· < ·) ∧ (∀ c ∈ cs, c < w * h) ∧ cs.length ≤ 12
def pl (w : Nat) (j s : Int) : Nat := ((j - s) % (w : Int)).toNat
theorem pl_lt {w : Nat} (hw : 0 < w) (j s : Int) : pl w j s < w := q_lt hw
theorem pl_int {w : Nat} (hw : 0 < w) (j s : Int) : ((pl w j s : Nat) : Int) = (j - s) % (w : Int) := by
  unfold pl
  have := Int.emod_nonneg (j - s) (b := (w : Int)) (by omega)
  omega
/-- whence comes what lies on a cell after a deed; none: it is fresh -/
def whence (w h : Nat) : Deed → Nat → Option Nat
  | .rake ss, x => some (x / w * w + pl w ((x % w : Nat) : Int) (ss.getD (x / w) 0))
  | .comb ss, x => some (pl h ((x / w : Nat) : Int) (ss.getD (x % w) 0) * w + x % w)
  | .drop c _, x => if x = c then none else if x / w = c / w then some (if x < c then x + 1 else x - 1) else if x % w = c % w then some (if x < c then x + w else x - w) else some x
  | .paper cs, x => if x ∈ cs then none else some x
def wayW : Option Nat → W
  | none => .non
  | some y => .int (y : Nat)
def ways (w h : Nat) (d : Deed) : List W := (List.range (w * h)).map fun x => wayW (whence w h d x)
theorem row_of {w h x : Nat} (hw : 0 < w) (hx : x < w * h) : x / w < h := by
  rw [Nat.div_lt_iff_lt_mul hw, Nat.mul_comm]
  exact hx
theorem cell_lt {w h r p : Nat} (hr : r < h) (hp : p < w) : r * w + p < w * h := by
  have : (r + 1) * w ≤ h * w := Nat.mul_le_mul_right _ hr
  rw [Nat.add_mul] at this
  rw [Nat.mul_comm w h]
  omega
theorem whence_drop {w h c z x : Nat} : whence w h (.drop c z) x = if x = c then none else if x / w = c / w then some (if x < c then x + 1 else x - 1) else if x % w = c % w then some (if x < c then x + w else x - w) else some x := rfl
theorem whence_paper {w h x : Nat} {cs : List Nat} : whence w h (.paper cs) x = if x ∈ cs then none else some x := rfl
theorem whence_lt {w h x y : Nat} {d : Deed} (hw : 0 < w) (hh : 0 < h) (ok : d.Ok w h) (hx : x < w * h) (e : whence w h d x = some y) : y < w * h := by
  have hr := row_of hw hx
  have hm := Nat.mod_lt x hw
  cases d with
  | rake ss =>
    cases e
    exact cell_lt hr (pl_lt hw _ _)
  | comb ss =>
    cases e
    exact cell_lt (pl_lt hh _ _) hm
  | drop c z =>
    have hc : c < w * h := ok.1
    have hrc := row_of hw hc
    have hmc := Nat.mod_lt c hw
    have d1 := Nat.div_add_mod' x w
    have d2 := Nat.div_add_mod' c w
    rw [whence_drop] at e
    split at e
    · cases e
    · rename_i hxc
      split at e
      · cases e
        split <;> omega
      · rename_i hrow
        split at e
        · rename_i hcol
          cases e
          split
          · rename_i hlt
            have : x / w + 1 ≤ c / w := by
              have : x / w ≤ c / w := Nat.div_le_div_right (by omega)
              omega
            have h2 : (x / w + 1) * w ≤ c / w * w := Nat.mul_le_mul_right _ this
            rw [Nat.add_mul] at h2
            omega
          · omega
        · cases e
          exact hx
  | paper cs =>
    rw [whence_paper] at e
    split at e
    · cases e
    · cases e
      exact hx
theorem set_map {N : Nat} {f : Nat → W} {i : Nat} {v : W} : ((List.range N).map f).set i v = (List.range N).map fun y => if y = i then v else f y := by
  apply List.ext_getElem?
  intro k
  rw [List.getElem?_set]
  by_cases hk : k < N
  · rw [List.getElem?_map, List.getElem?_map, List.getElem?_range hk]
    by_cases e : i = k
    · subst e
      simp [hk]
    · have e' : ¬ k = i := fun z => e z.symm
      simp [e, e']
  · rw [List.getElem?_map, List.getElem?_map, List.getElem?_eq_none (by simpa using hk)]
    simp
    omega
theorem rng_map {N : Nat} {f g : Nat → W} (h : ∀ y, y < N → f y = g y) : (List.range N).map f = (List.range N).map g := List.map_congr_left fun y hy => h y (List.mem_range.mp hy)
theorem intM_b {S : Sto} (b : Bool) : intM [.bl b] S = .ok (.int (if b then 1 else 0)) S := rfl
theorem lrM_n {S : Sto} (n : Nat) (h : n ≤ 100) : lrM (.int (n : Int)) S = .ok (.ref S.length) (S ++ [.lst ((List.range n).map fun (i : Nat) => W.int i)]) := by
  show (if (0 : Int) ≤ (n : Int) ∧ (n : Int) ≤ 16777216 then Res.ok (W.ref S.length) (S ++ [.lst ((List.range (n : Int).toNat).map fun (i : Nat) => W.int i)]) else .bad) = _
  rw [if_pos ⟨by omega, by omega⟩, Int.toNat_natCast]
section
variable {S : Sto} {w h : Nat}
theorem strideAt {ss : List Int} {k : Nat} (hk : k < ss.length) : atI (ss.map W.int) ((k : Nat) : Int) = some (.int (ss.getD k 0)) := by
  refine atI_n ?_
  rw [List.getElem?_map, List.getElem?_eq_getElem hk, List.getD_eq_getElem?_getD, List.getElem?_eq_getElem hk]
  rfl
theorem drawn_ok {d : Deed} (hw : 0 < w) (hh : 0 < h) (w5 : w ≤ 5) (h5 : h ≤ 5) (ok : d.Ok w h) (hd : (∃ ss, d = .rake ss) ∨ ∃ ss, d = .comb ss) (S : Sto) : Ho (g_drawn [.int w, .int h, deedW d] S) (fun v S' => ∃ j, v = .ref j ∧ S <+: S' ∧ S'[j]? = some (.lst (ways w h d))) noX := by
  have hz2 := sizeLine_big
  have z0 : (0 : Nat) ≤ sizeLine := Nat.zero_le _
  have z2 : (2 : Nat) ≤ sizeLine := by omega
  have sm := fun y => small_nat2 (n := w) (by omega) y
  have sm2 := fun y => small_nat2 (n := h) (by omega) y
  have hwh : w * h ≤ 25 := by
    have := Nat.mul_le_mul w5 h5
    omega
  have eM : (w : Int) * (h : Int) = ((w * h : Nat) : Int) := by rw [Int.natCast_mul]
  have rb : -(2 ^ 62) ≤ ((w * h : Nat) : Int) ∧ ((w * h : Nat) : Int) < 2 ^ 62 := ⟨by omega, by omega⟩
  have d1 : (0 : Int) < (w : Int) := by omega
  have d2 : (w : Int) < 1152921504606846976 := by omega
  have d3 : (0 : Int) < (h : Int) := by omega
  have emn : ∀ n : Nat, (n : Int) - ((n / w : Nat) : Int) * (w : Int) = ((n % w : Nat) : Int) := fun n => by
    rw [← Int.natCast_mul]
    have := Nat.div_add_mod' n w
    omega
  have el : ((List.range ((w * h : Nat) : Int).toNat).map fun (n : Nat) => W.int n).length = w * h := by rw [List.length_map, List.length_range, Int.toNat_natCast]
  rcases hd with ⟨ss, rfl⟩ | ⟨ss, rfl⟩
  · have sl : ss.length = h := ok.1
    unfold g_drawn deedW
    simp only [ho_ok, ho_ret, ho_bd, ho_bdI, ho_bdO, hos_nx, hos_rt, hos_bk, hos_ct, hos_onx, hos_ort, hos_exS, hos_exT, hos_exA, hos_exI, nxt_nx, nxt_rt, nxt_bk, nxt_ct, hos_seq, hos_asg, fin_nx, fin_rt, ho_body1, ho_body2, ho_body3, ho_body4, ho_meth, ho_bm, ho_prop, ho_if, hos_if, ho_and, ho_or, ho_andT, ho_orT, ho_ite, ho_chain, ret_d, ngW_b, blM_b, truM_b, getSl_0, getSl_s, lstM_d, tupM_d, add_ii, add_ss, sub_ii, mul_ii, fdiv_ii, mod_ii, pow_ii, lt_ii, le_ii, gt_ii, ge_ii, eq_ii, ne_ii, eq_ss, ne_ss, intM_i, lenM_t, ixM_t, seqV_s, seqV_t, partM_i, in_1, List.length_cons, List.length_nil, List.length_singleton, List.map_cons, List.map_nil, List.cons_append, List.nil_append, List.set_cons_zero, List.set_cons_succ, List.replicate_succ, List.replicate_zero, List.append_nil, Nat.reduceAdd, Nat.reduceSub, Nat.zero_add, Nat.sub_self, Nat.reduceEqDiff, Nat.reduceLeDiff, if_true, if_false, ite_true, ite_false, reduceIte, decide_true, decide_false, Bool.not_true, Bool.not_false, true_and, and_true, r_drawn, unpM, thenG, z0, z2, sm2, eM, rng1_i, rb]
    refine hos_for (ws := (List.range ((w * h : Nat) : Int).toNat).map fun (n : Nat) => W.int n) (fun n sl S' => (∃ x6 x7 x8, sl = [some (.int (w : Nat)), some (.int (h : Nat)), some (.tup [.str (Str.ofString "rake"), .tup (ss.map W.int)]), some (.str (Str.ofString "rake")), some (.tup (ss.map W.int)), some (.ref S.length), x6, x7, x8]) ∧ S <+: S' ∧ S'[S.length]? = some (.lst ((List.range n).map fun x => wayW (whence w h (.rake ss) x)))) ⟨⟨_, _, _, rfl⟩, List.prefix_append _ _, get_last⟩ (fun _ _ _ _ => rfl) (fun n u sl' S' hw1 hp => ?_) fun sl' S' hp => ?_
    · obtain ⟨⟨x6, x7, x8, rfl⟩, p, hf⟩ := hp
      obtain ⟨hn, rfl⟩ := rng_at hw1
      have hst := strideAt (ss := ss) (k := n / w) (by rw [sl]; exact row_of hw hn)
      have em := emn n
      have es : ((n / w : Nat) : Int) * (w : Int) + (((n % w : Nat) : Int) - ss.getD (n / w) 0) % (w : Int) = ((n / w * w + pl w ((n % w : Nat) : Int) (ss.getD (n / w) 0) : Nat) : Int) := by
        rw [Int.natCast_add, Int.natCast_mul, pl_int hw]
      have hln : ((List.range n).map fun x => wayW (whence w h (.rake ss) x)).length < sizeLine := by
        simp
        omega
      simp only [ho_ok, ho_ret, ho_bd, ho_bdI, ho_bdO, hos_nx, hos_rt, hos_bk, hos_ct, hos_onx, hos_ort, hos_exS, hos_exT, hos_exA, hos_exI, nxt_nx, nxt_rt, nxt_bk, nxt_ct, hos_seq, hos_asg, fin_nx, fin_rt, ho_body1, ho_body2, ho_body3, ho_body4, ho_meth, ho_bm, ho_prop, ho_if, hos_if, ho_and, ho_or, ho_andT, ho_orT, ho_ite, ho_chain, ret_d, ngW_b, blM_b, truM_b, getSl_0, getSl_s, lstM_d, tupM_d, add_ii, add_ss, sub_ii, mul_ii, fdiv_ii, mod_ii, pow_ii, lt_ii, le_ii, gt_ii, ge_ii, eq_ii, ne_ii, eq_ss, ne_ss, intM_i, lenM_t, ixM_t, seqV_s, seqV_t, partM_i, in_1, List.length_cons, List.length_nil, List.length_singleton, List.map_cons, List.map_nil, List.cons_append, List.nil_append, List.set_cons_zero, List.set_cons_succ, List.replicate_succ, List.replicate_zero, List.append_nil, Nat.reduceAdd, Nat.reduceSub, Nat.zero_add, Nat.sub_self, Nat.reduceEqDiff, Nat.reduceLeDiff, if_true, if_false, ite_true, ite_false, reduceIte, decide_true, decide_false, Bool.not_true, Bool.not_false, true_and, and_true, d1, d2, div_cast, sm, em, parM, List.zip_cons_cons, List.zip_nil_right, List.zip_nil_left, List.foldl_cons, List.foldl_nil, hst, es, tyN_lst hf, app_l hf hln, stp_nx]
      refine ⟨⟨_, _, _, rfl⟩, pre_put2 p (Nat.le_refl _), ?_⟩
      rw [set_get hf, List.range_succ, List.map_append]
      rfl
    · obtain ⟨⟨x6, x7, x8, rfl⟩, p, hf⟩ := hp
      rw [el] at hf
      simp only [ho_ok, ho_ret, ho_bd, ho_bdI, ho_bdO, hos_nx, hos_rt, hos_bk, hos_ct, hos_onx, hos_ort, hos_exS, hos_exT, hos_exA, hos_exI, nxt_nx, nxt_rt, nxt_bk, nxt_ct, hos_seq, hos_asg, fin_nx, fin_rt, ho_body1, ho_body2, ho_body3, ho_body4, ho_meth, ho_bm, ho_prop, ho_if, hos_if, ho_and, ho_or, ho_andT, ho_orT, ho_ite, ho_chain, ret_d, ngW_b, blM_b, truM_b, getSl_0, getSl_s, lstM_d, tupM_d, add_ii, add_ss, sub_ii, mul_ii, fdiv_ii, mod_ii, pow_ii, lt_ii, le_ii, gt_ii, ge_ii, eq_ii, ne_ii, eq_ss, ne_ss, intM_i, lenM_t, ixM_t, seqV_s, seqV_t, partM_i, in_1, List.length_cons, List.length_nil, List.length_singleton, List.map_cons, List.map_nil, List.cons_append, List.nil_append, List.set_cons_zero, List.set_cons_succ, List.replicate_succ, List.replicate_zero, List.append_nil, Nat.reduceAdd, Nat.reduceSub, Nat.zero_add, Nat.sub_self, Nat.reduceEqDiff, Nat.reduceLeDiff, if_true, if_false, ite_true, ite_false, reduceIte, decide_true, decide_false, Bool.not_true, Bool.not_false, true_and, and_true]
      exact ⟨_, rfl, p, hf⟩
  · have sl : ss.length = w := ok.1
    have k1 : decide (Str.ofString "comb" = Str.ofString "rake") = false := by decide +kernel
    unfold g_drawn deedW
    simp only [ho_ok, ho_ret, ho_bd, ho_bdI, ho_bdO, hos_nx, hos_rt, hos_bk, hos_ct, hos_onx, hos_ort, hos_exS, hos_exT, hos_exA, hos_exI, nxt_nx, nxt_rt, nxt_bk, nxt_ct, hos_seq, hos_asg, fin_nx, fin_rt, ho_body1, ho_body2, ho_body3, ho_body4, ho_meth, ho_bm, ho_prop, ho_if, hos_if, ho_and, ho_or, ho_andT, ho_orT, ho_ite, ho_chain, ret_d, ngW_b, blM_b, truM_b, getSl_0, getSl_s, lstM_d, tupM_d, add_ii, add_ss, sub_ii, mul_ii, fdiv_ii, mod_ii, pow_ii, lt_ii, le_ii, gt_ii, ge_ii, eq_ii, ne_ii, eq_ss, ne_ss, intM_i, lenM_t, ixM_t, seqV_s, seqV_t, partM_i, in_1, List.length_cons, List.length_nil, List.length_singleton, List.map_cons, List.map_nil, List.cons_append, List.nil_append, List.set_cons_zero, List.set_cons_succ, List.replicate_succ, List.replicate_zero, List.append_nil, Nat.reduceAdd, Nat.reduceSub, Nat.zero_add, Nat.sub_self, Nat.reduceEqDiff, Nat.reduceLeDiff, if_true, if_false, ite_true, ite_false, reduceIte, decide_true, decide_false, Bool.not_true, Bool.not_false, true_and, and_true, r_drawn, unpM, thenG, z0, z2, sm2, eM, rng1_i, rb]
    refine hos_for (ws := (List.range ((w * h : Nat) : Int).toNat).map fun (n : Nat) => W.int n) (fun n sl S' => (∃ x6 x7 x8, sl = [some (.int (w : Nat)), some (.int (h : Nat)), some (.tup [.str (Str.ofString "comb"), .tup (ss.map W.int)]), some (.str (Str.ofString "comb")), some (.tup (ss.map W.int)), some (.ref S.length), x6, x7, x8]) ∧ S <+: S' ∧ S'[S.length]? = some (.lst ((List.range n).map fun x => wayW (whence w h (.comb ss) x)))) ⟨⟨_, _, _, rfl⟩, List.prefix_append _ _, get_last⟩ (fun _ _ _ _ => rfl) (fun n u sl' S' hw1 hp => ?_) fun sl' S' hp => ?_
    · obtain ⟨⟨x6, x7, x8, rfl⟩, p, hf⟩ := hp
      obtain ⟨hn, rfl⟩ := rng_at hw1
      have hst := strideAt (ss := ss) (k := n % w) (by rw [sl]; exact Nat.mod_lt _ hw)
      have em := emn n
      have es : (((n / w : Nat) : Int) - ss.getD (n % w) 0) % (h : Int) * (w : Int) + ((n % w : Nat) : Int) = ((pl h ((n / w : Nat) : Int) (ss.getD (n % w) 0) * w + n % w : Nat) : Int) := by
        rw [Int.natCast_add, Int.natCast_mul, pl_int hh]
      have hln : ((List.range n).map fun x => wayW (whence w h (.comb ss) x)).length < sizeLine := by
        simp
        omega
      simp only [ho_ok, ho_ret, ho_bd, ho_bdI, ho_bdO, hos_nx, hos_rt, hos_bk, hos_ct, hos_onx, hos_ort, hos_exS, hos_exT, hos_exA, hos_exI, nxt_nx, nxt_rt, nxt_bk, nxt_ct, hos_seq, hos_asg, fin_nx, fin_rt, ho_body1, ho_body2, ho_body3, ho_body4, ho_meth, ho_bm, ho_prop, ho_if, hos_if, ho_and, ho_or, ho_andT, ho_orT, ho_ite, ho_chain, ret_d, ngW_b, blM_b, truM_b, getSl_0, getSl_s, lstM_d, tupM_d, add_ii, add_ss, sub_ii, mul_ii, fdiv_ii, mod_ii, pow_ii, lt_ii, le_ii, gt_ii, ge_ii, eq_ii, ne_ii, eq_ss, ne_ss, intM_i, lenM_t, ixM_t, seqV_s, seqV_t, partM_i, in_1, List.length_cons, List.length_nil, List.length_singleton, List.map_cons, List.map_nil, List.cons_append, List.nil_append, List.set_cons_zero, List.set_cons_succ, List.replicate_succ, List.replicate_zero, List.append_nil, Nat.reduceAdd, Nat.reduceSub, Nat.zero_add, Nat.sub_self, Nat.reduceEqDiff, Nat.reduceLeDiff, if_true, if_false, ite_true, ite_false, reduceIte, decide_true, decide_false, Bool.not_true, Bool.not_false, true_and, and_true, d1, d2, d3, div_cast, sm, em, parM, List.zip_cons_cons, List.zip_nil_right, List.zip_nil_left, List.foldl_cons, List.foldl_nil, k1, hst, es, tyN_lst hf, app_l hf hln, stp_nx]
      refine ⟨⟨_, _, _, rfl⟩, pre_put2 p (Nat.le_refl _), ?_⟩
      rw [set_get hf, List.range_succ, List.map_append]
      rfl
    · obtain ⟨⟨x6, x7, x8, rfl⟩, p, hf⟩ := hp
      rw [el] at hf
      simp only [ho_ok, ho_ret, ho_bd, ho_bdI, ho_bdO, hos_nx, hos_rt, hos_bk, hos_ct, hos_onx, hos_ort, hos_exS, hos_exT, hos_exA, hos_exI, nxt_nx, nxt_rt, nxt_bk, nxt_ct, hos_seq, hos_asg, fin_nx, fin_rt, ho_body1, ho_body2, ho_body3, ho_body4, ho_meth, ho_bm, ho_prop, ho_if, hos_if, ho_and, ho_or, ho_andT, ho_orT, ho_ite, ho_chain, ret_d, ngW_b, blM_b, truM_b, getSl_0, getSl_s, lstM_d, tupM_d, add_ii, add_ss, sub_ii, mul_ii, fdiv_ii, mod_ii, pow_ii, lt_ii, le_ii, gt_ii, ge_ii, eq_ii, ne_ii, eq_ss, ne_ss, intM_i, lenM_t, ixM_t, seqV_s, seqV_t, partM_i, in_1, List.length_cons, List.length_nil, List.length_singleton, List.map_cons, List.map_nil, List.cons_append, List.nil_append, List.set_cons_zero, List.set_cons_succ, List.replicate_succ, List.replicate_zero, List.append_nil, Nat.reduceAdd, Nat.reduceSub, Nat.zero_add, Nat.sub_self, Nat.reduceEqDiff, Nat.reduceLeDiff, if_true, if_false, ite_true, ite_false, reduceIte, decide_true, decide_false, Bool.not_true, Bool.not_false, true_and, and_true]
      exact ⟨_, rfl, p, hf⟩
/-- a step towards -/
def st (a b : Nat) : Int := (if a < b then 1 else 0) - (if b < a then 1 else 0)
theorem pushed_ok {c x : Nat} (hw : 0 < w) (hh : 0 < h) (w5 : w ≤ 5) (h5 : h ≤ 5) (hc : c < w * h) (S : Sto) : Ho (g_pushed [.int w, .int h, .int c] S) (fun v S' => ∃ j, v = .ref j ∧ S <+: S' ∧ S'[j]? = some (.lst (ways w h (.drop c x)))) noX := by
  have hz2 := sizeLine_big
  have sm := fun y => small_nat2 (n := w) (by omega) y
  have sm2 := fun y => small_nat2 (n := h) (by omega) y
  have hwh : w * h ≤ 25 := by
    have := Nat.mul_le_mul w5 h5
    omega
  have eM : (w : Int) * (h : Int) = ((w * h : Nat) : Int) := by rw [Int.natCast_mul]
  have rbw : -(2 ^ 62) ≤ (w : Int) ∧ (w : Int) < 2 ^ 62 := ⟨by omega, by omega⟩
  have rbh : -(2 ^ 62) ≤ (h : Int) ∧ (h : Int) < 2 ^ 62 := ⟨by omega, by omega⟩
  have d1 : (0 : Int) < (w : Int) := by omega
  have d2 : (w : Int) < 1152921504606846976 := by omega
  have em : (c : Int) - ((c / w : Nat) : Int) * (w : Int) = ((c % w : Nat) : Int) := by
    rw [← Int.natCast_mul]
    have := Nat.div_add_mod' c w
    omega
  have hrc := row_of hw hc
  have hmc := Nat.mod_lt c hw
  have dc := Nat.div_add_mod' c w
  generalize hR : c / w = R at *
  generalize hP : c % w = P at *
  unfold g_pushed
  simp only [ho_ok, ho_ret, ho_bd, ho_bdI, ho_bdO, hos_nx, hos_rt, hos_bk, hos_ct, hos_onx, hos_ort, hos_exS, hos_exT, hos_exA, hos_exI, nxt_nx, nxt_rt, nxt_bk, nxt_ct, hos_seq, hos_asg, fin_nx, fin_rt, ho_body1, ho_body2, ho_body3, ho_body4, ho_meth, ho_bm, ho_prop, ho_if, hos_if, ho_and, ho_or, ho_andT, ho_orT, ho_ite, ho_chain, ret_d, ngW_b, blM_b, truM_b, getSl_0, getSl_s, lstM_d, tupM_d, add_ii, add_ss, sub_ii, mul_ii, fdiv_ii, mod_ii, pow_ii, lt_ii, le_ii, gt_ii, ge_ii, eq_ii, ne_ii, eq_ss, ne_ss, intM_i, lenM_t, ixM_t, seqV_s, seqV_t, partM_i, in_1, List.length_cons, List.length_nil, List.length_singleton, List.map_cons, List.map_nil, List.cons_append, List.nil_append, List.set_cons_zero, List.set_cons_succ, List.replicate_succ, List.replicate_zero, List.append_nil, Nat.reduceAdd, Nat.reduceSub, Nat.zero_add, Nat.sub_self, Nat.reduceEqDiff, Nat.reduceLeDiff, if_true, if_false, ite_true, ite_false, reduceIte, decide_true, decide_false, Bool.not_true, Bool.not_false, true_and, and_true, r_pushed, sm2, eM, lrM_n (S := S) (w * h) (by omega), d1, d2, div_cast, hR, sm, em, parM, List.zip_cons_cons, List.zip_nil_right, List.zip_nil_left, List.foldl_cons, List.foldl_nil, rng1_i, rbw]
  refine hos_for (ws := (List.range (w : Int).toNat).map fun (n : Nat) => W.int n) (fun n sl S' => (∃ x6, sl = [some (.int (w : Nat)), some (.int (h : Nat)), some (.int (c : Nat)), some (.ref S.length), some (.int (R : Nat)), some (.int (P : Nat)), x6]) ∧ S <+: S' ∧ S'[S.length]? = some (.lst ((List.range (w * h)).map fun y => if y / w = R ∧ y % w < n then W.int ((y : Int) + st (y % w) P) else .int (y : Nat)))) ⟨⟨_, rfl⟩, List.prefix_append _ _, ?_⟩ (fun _ _ _ _ => rfl) (fun n u sl' S' hw1 hp => ?_) fun sl' S' hp => ?_
  · rw [get_last]
    congr 2
    exact rng_map fun y _ => by simp
  · obtain ⟨⟨x6, rfl⟩, p, hf⟩ := hp
    obtain ⟨hn, rfl⟩ := rng_at hw1
    have hlt : R * w + n < w * h := cell_lt hrc hn
    have ei : (R : Int) * (w : Int) + (n : Int) = ((R * w + n : Nat) : Int) := by rw [Int.natCast_add, Int.natCast_mul]
    have lg : ((List.range (w * h)).map fun y => if y / w = R ∧ y % w < n then W.int ((y : Int) + st (y % w) P) else .int (y : Nat)).length = w * h := by simp
    have ixe : ixN ((List.range (w * h)).map fun y => if y / w = R ∧ y % w < n then W.int ((y : Int) + st (y % w) P) else .int (y : Nat)).length ((R * w + n : Nat) : Int) = some (R * w + n) := ixN_at (by rw [lg]; exact hlt)
    have stx := fun v => setIx_l (v := v) hf ixe
    simp only [ho_ok, ho_ret, ho_bd, ho_bdI, ho_bdO, hos_nx, hos_rt, hos_bk, hos_ct, hos_onx, hos_ort, hos_exS, hos_exT, hos_exA, hos_exI, nxt_nx, nxt_rt, nxt_bk, nxt_ct, hos_seq, hos_asg, fin_nx, fin_rt, ho_body1, ho_body2, ho_body3, ho_body4, ho_meth, ho_bm, ho_prop, ho_if, hos_if, ho_and, ho_or, ho_andT, ho_orT, ho_ite, ho_chain, ret_d, ngW_b, blM_b, truM_b, getSl_0, getSl_s, lstM_d, tupM_d, add_ii, add_ss, sub_ii, mul_ii, fdiv_ii, mod_ii, pow_ii, lt_ii, le_ii, gt_ii, ge_ii, eq_ii, ne_ii, eq_ss, ne_ss, intM_i, lenM_t, ixM_t, seqV_s, seqV_t, partM_i, in_1, List.length_cons, List.length_nil, List.length_singleton, List.map_cons, List.map_nil, List.cons_append, List.nil_append, List.set_cons_zero, List.set_cons_succ, List.replicate_succ, List.replicate_zero, List.append_nil, Nat.reduceAdd, Nat.reduceSub, Nat.zero_add, Nat.sub_self, Nat.reduceEqDiff, Nat.reduceLeDiff, if_true, if_false, ite_true, ite_false, reduceIte, decide_true, decide_false, Bool.not_true, Bool.not_false, true_and, and_true, intM_b, sm, ei, stx, stp_nx]
    refine ⟨⟨_, rfl⟩, pre_put2 p (Nat.le_refl _), ?_⟩
    rw [set_get hf, set_map]
    congr 2
    refine rng_map fun y hy => ?_
    have e1 : (R * w + n) / w = R := by
      rw [Nat.add_comm, Nat.add_mul_div_right _ _ hw, Nat.div_eq_of_lt hn, Nat.zero_add]
    have e2 : (R * w + n) % w = n := by
      rw [Nat.add_comm, Nat.add_mul_mod_self_right, Nat.mod_eq_of_lt hn]
    by_cases e : y = R * w + n
    · rw [if_pos e, e, e1, e2, if_pos (show R = R ∧ n < n + 1 from ⟨rfl, by omega⟩)]
      congr 1
      unfold st
      simp only [decide_eq_true_eq, Int.ofNat_lt]
      omega
    · rw [if_neg e]
      have dy := Nat.div_add_mod' y w
      by_cases h1 : y / w = R ∧ y % w < n
      · rw [if_pos h1, if_pos ⟨h1.1, by omega⟩]
      · have h1' : ¬ (y / w = R ∧ y % w < n + 1) := by
          rintro ⟨a, b⟩
          apply h1
          refine ⟨a, ?_⟩
          rw [a] at dy
          omega
        rw [if_neg h1, if_neg h1']
  · obtain ⟨⟨x6, rfl⟩, p, hf⟩ := hp
    have el : ((List.range (w : Int).toNat).map fun (n : Nat) => W.int n).length = w := by simp
    rw [el] at hf
    have hf' : S'[S.length]? = some (.lst ((List.range (w * h)).map fun y => if y / w = R then W.int ((y : Int) + st (y % w) P) else .int (y : Nat))) := by
      rw [hf]
      congr 2
      refine rng_map fun y _ => ?_
      have := Nat.mod_lt y hw
      by_cases e : y / w = R
      · rw [if_pos e, if_pos ⟨e, this⟩]
      · rw [if_neg e, if_neg fun z => e z.1]
    simp only [ho_ok, ho_ret, ho_bd, ho_bdI, ho_bdO, hos_nx, hos_rt, hos_bk, hos_ct, hos_onx, hos_ort, hos_exS, hos_exT, hos_exA, hos_exI, nxt_nx, nxt_rt, nxt_bk, nxt_ct, hos_seq, hos_asg, fin_nx, fin_rt, ho_body1, ho_body2, ho_body3, ho_body4, ho_meth, ho_bm, ho_prop, ho_if, hos_if, ho_and, ho_or, ho_andT, ho_orT, ho_ite, ho_chain, ret_d, ngW_b, blM_b, truM_b, getSl_0, getSl_s, lstM_d, tupM_d, add_ii, add_ss, sub_ii, mul_ii, fdiv_ii, mod_ii, pow_ii, lt_ii, le_ii, gt_ii, ge_ii, eq_ii, ne_ii, eq_ss, ne_ss, intM_i, lenM_t, ixM_t, seqV_s, seqV_t, partM_i, in_1, List.length_cons, List.length_nil, List.length_singleton, List.map_cons, List.map_nil, List.cons_append, List.nil_append, List.set_cons_zero, List.set_cons_succ, List.replicate_succ, List.replicate_zero, List.append_nil, Nat.reduceAdd, Nat.reduceSub, Nat.zero_add, Nat.sub_self, Nat.reduceEqDiff, Nat.reduceLeDiff, if_true, if_false, ite_true, ite_false, reduceIte, decide_true, decide_false, Bool.not_true, Bool.not_false, true_and, and_true, rng1_i, rbh]
    refine hos_for (ws := (List.range (h : Int).toNat).map fun (n : Nat) => W.int n) (fun n sl S' => (∃ x6, sl = [some (.int (w : Nat)), some (.int (h : Nat)), some (.int (c : Nat)), some (.ref S.length), some (.int (R : Nat)), some (.int (P : Nat)), x6]) ∧ S <+: S' ∧ S'[S.length]? = some (.lst ((List.range (w * h)).map fun y => if y % w = P ∧ y / w < n then W.int ((((y / w : Nat) : Int) + st (y / w) R) * (w : Int) + (P : Int)) else if y / w = R then W.int ((y : Int) + st (y % w) P) else .int (y : Nat)))) ⟨⟨_, rfl⟩, p, ?_⟩ (fun _ _ _ _ => rfl) (fun n u sl' S' hw1 hp => ?_) fun sl' S' hp => ?_
    · rw [hf']
      congr 2
      exact rng_map fun y _ => by simp
    · obtain ⟨⟨x6, rfl⟩, p, hf⟩ := hp
      obtain ⟨hn, rfl⟩ := rng_at hw1
      have hlt : n * w + P < w * h := cell_lt hn hmc
      have ei : (n : Int) * (w : Int) + (P : Int) = ((n * w + P : Nat) : Int) := by rw [Int.natCast_add, Int.natCast_mul]
      have lg : ((List.range (w * h)).map fun y => if y % w = P ∧ y / w < n then W.int ((((y / w : Nat) : Int) + st (y / w) R) * (w : Int) + (P : Int)) else if y / w = R then W.int ((y : Int) + st (y % w) P) else .int (y : Nat)).length = w * h := by simp
      have ixe : ixN ((List.range (w * h)).map fun y => if y % w = P ∧ y / w < n then W.int ((((y / w : Nat) : Int) + st (y / w) R) * (w : Int) + (P : Int)) else if y / w = R then W.int ((y : Int) + st (y % w) P) else .int (y : Nat)).length ((n * w + P : Nat) : Int) = some (n * w + P) := ixN_at (by rw [lg]; exact hlt)
      have stx := fun v => setIx_l (v := v) hf ixe
      simp only [ho_ok, ho_ret, ho_bd, ho_bdI, ho_bdO, hos_nx, hos_rt, hos_bk, hos_ct, hos_onx, hos_ort, hos_exS, hos_exT, hos_exA, hos_exI, nxt_nx, nxt_rt, nxt_bk, nxt_ct, hos_seq, hos_asg, fin_nx, fin_rt, ho_body1, ho_body2, ho_body3, ho_body4, ho_meth, ho_bm, ho_prop, ho_if, hos_if, ho_and, ho_or, ho_andT, ho_orT, ho_ite, ho_chain, ret_d, ngW_b, blM_b, truM_b, getSl_0, getSl_s, lstM_d, tupM_d, add_ii, add_ss, sub_ii, mul_ii, fdiv_ii, mod_ii, pow_ii, lt_ii, le_ii, gt_ii, ge_ii, eq_ii, ne_ii, eq_ss, ne_ss, intM_i, lenM_t, ixM_t, seqV_s, seqV_t, partM_i, in_1, List.length_cons, List.length_nil, List.length_singleton, List.map_cons, List.map_nil, List.cons_append, List.nil_append, List.set_cons_zero, List.set_cons_succ, List.replicate_succ, List.replicate_zero, List.append_nil, Nat.reduceAdd, Nat.reduceSub, Nat.zero_add, Nat.sub_self, Nat.reduceEqDiff, Nat.reduceLeDiff, if_true, if_false, ite_true, ite_false, reduceIte, decide_true, decide_false, Bool.not_true, Bool.not_false, true_and, and_true, intM_b, sm, ei, stx, stp_nx]
      refine ⟨⟨_, rfl⟩, pre_put2 p (Nat.le_refl _), ?_⟩
      rw [set_get hf, set_map]
      congr 2
      refine rng_map fun y hy => ?_
      have e1 : (n * w + P) / w = n := by
        rw [Nat.add_comm, Nat.add_mul_div_right _ _ hw, Nat.div_eq_of_lt hmc, Nat.zero_add]
      have e2 : (n * w + P) % w = P := by
        rw [Nat.add_comm, Nat.add_mul_mod_self_right, Nat.mod_eq_of_lt hmc]
      by_cases e : y = n * w + P
      · rw [if_pos e, e, e1, e2, if_pos (show P = P ∧ n < n + 1 from ⟨rfl, by omega⟩)]
        congr 1
        unfold st
        simp only [decide_eq_true_eq, Int.ofNat_lt]
        congr 2
        omega
      · rw [if_neg e]
        have dy := Nat.div_add_mod' y w
        by_cases h1 : y % w = P ∧ y / w < n
        · rw [if_pos h1, if_pos ⟨h1.1, by omega⟩]
        · have h1' : ¬ (y % w = P ∧ y / w < n + 1) := by
            rintro ⟨a, b⟩
            apply h1
            refine ⟨a, ?_⟩
            rcases Nat.lt_or_ge (y / w) n with z | z
            · exact z
            · have z2 : y / w = n := by omega
              rw [z2, a] at dy
              omega
          rw [if_neg h1, if_neg h1']
    · obtain ⟨⟨x6, rfl⟩, p, hf⟩ := hp
      have el2 : ((List.range (h : Int).toNat).map fun (n : Nat) => W.int n).length = h := by simp
      rw [el2] at hf
      have ixe : ixN ((List.range (w * h)).map fun y => if y % w = P ∧ y / w < h then W.int ((((y / w : Nat) : Int) + st (y / w) R) * (w : Int) + (P : Int)) else if y / w = R then W.int ((y : Int) + st (y % w) P) else .int (y : Nat)).length (c : Int) = some c := ixN_at (by simpa using hc)
      have stx := setIx_l (v := .non) hf ixe
      simp only [ho_ok, ho_ret, ho_bd, ho_bdI, ho_bdO, hos_nx, hos_rt, hos_bk, hos_ct, hos_onx, hos_ort, hos_exS, hos_exT, hos_exA, hos_exI, nxt_nx, nxt_rt, nxt_bk, nxt_ct, hos_seq, hos_asg, fin_nx, fin_rt, ho_body1, ho_body2, ho_body3, ho_body4, ho_meth, ho_bm, ho_prop, ho_if, hos_if, ho_and, ho_or, ho_andT, ho_orT, ho_ite, ho_chain, ret_d, ngW_b, blM_b, truM_b, getSl_0, getSl_s, lstM_d, tupM_d, add_ii, add_ss, sub_ii, mul_ii, fdiv_ii, mod_ii, pow_ii, lt_ii, le_ii, gt_ii, ge_ii, eq_ii, ne_ii, eq_ss, ne_ss, intM_i, lenM_t, ixM_t, seqV_s, seqV_t, partM_i, in_1, List.length_cons, List.length_nil, List.length_singleton, List.map_cons, List.map_nil, List.cons_append, List.nil_append, List.set_cons_zero, List.set_cons_succ, List.replicate_succ, List.replicate_zero, List.append_nil, Nat.reduceAdd, Nat.reduceSub, Nat.zero_add, Nat.sub_self, Nat.reduceEqDiff, Nat.reduceLeDiff, if_true, if_false, ite_true, ite_false, reduceIte, decide_true, decide_false, Bool.not_true, Bool.not_false, true_and, and_true, stx]
      refine ⟨_, rfl, pre_put2 p (Nat.le_refl _), ?_⟩
      rw [set_get hf, set_map]
      congr 2
      unfold ways
      refine rng_map fun y hy => ?_
      have hry := row_of hw hy
      have dy := Nat.div_add_mod' y w
      have my := Nat.mod_lt y hw
      rw [whence_drop]
      by_cases e : y = c
      · rw [if_pos e, if_pos e]
        rfl
      · rw [if_neg e, if_neg e, hR, hP]
        by_cases h1 : y / w = R
        · have h2 : ¬ y % w = P := fun z => e (by rw [h1, z] at dy; omega)
          rw [if_pos h1, if_neg fun z => h2 z.1, if_pos h1]
          rw [h1] at dy
          by_cases h3 : y < c
          · rw [if_pos h3]
            show W.int _ = W.int _
            congr 1
            unfold st
            rw [if_pos (show y % w < P by omega), if_neg (show ¬ P < y % w by omega)]
            omega
          · rw [if_neg h3]
            show W.int _ = W.int _
            congr 1
            unfold st
            rw [if_neg (show ¬ y % w < P by omega), if_pos (show P < y % w by omega)]
            omega
        · rw [if_neg h1, if_neg h1]
          by_cases h2 : y % w = P
          · rw [if_pos ⟨h2, hry⟩, if_pos h2]
            rw [h2] at dy
            by_cases h3 : y < c
            · rw [if_pos h3]
              have h4 : y / w < R := by
                rw [← hR]
                have : y / w ≤ c / w := Nat.div_le_div_right (by omega)
                omega
              show W.int _ = W.int _
              congr 1
              unfold st
              rw [if_pos h4, if_neg (show ¬ R < y / w by omega)]
              rw [show ((y / w : Nat) : Int) + (1 - 0) = ((y / w : Nat) : Int) + 1 by omega, Int.add_mul, ← Int.natCast_mul]
              omega
            · rw [if_neg h3]
              have h4 : R < y / w := by
                have : c / w ≤ y / w := Nat.div_le_div_right (by omega)
                omega
              have h5' : (R + 1) * w ≤ y / w * w := Nat.mul_le_mul_right _ h4
              rw [Nat.add_mul] at h5'
              show W.int _ = W.int _
              congr 1
              unfold st
              rw [if_neg (show ¬ y / w < R by omega), if_pos h4]
              rw [show ((y / w : Nat) : Int) + (0 - 1) = ((y / w : Nat) : Int) - 1 by omega, Int.sub_mul, ← Int.natCast_mul]
              omega
          · rw [if_neg fun z => h2 z.1, if_neg h2]
            rfl
end
end Lw


namespace Lw
open PySem L2 RP
/-- a tray of the state -/
def IsTray (S : Sto) (t : Nat) (w h th pp : Nat) : Prop := S[t]? = some (.ins 6 [.tup [.int (w : Nat), .int (h : Nat)], .ref th, .ref pp])
theorem tray_make {l : List Nat} (hl : l.length ≤ 12) (w h : Nat) (S : Sto) : Ho (makeM false 6 g_TrayD_initD [.int w, .int h, .str (txt l)] S) (fun v S' => v = .ref S.length ∧ S <+: S' ∧ ∃ th pp, th ≠ S.length ∧ IsTray S' S.length w h th pp ∧ S'[th]? = some (.lst (sgW l)) ∧ pp ≠ S.length ∧ pp ≠ th ∧ S'[pp]? = some (.lst []) ∧ S.length ≤ th ∧ S.length ≤ pp) noX := by
  have hz2 := sizeLine_big
  have z0 : (0 : Nat) ≤ sizeLine := Nat.zero_le _
  have z2 : (2 : Nat) ≤ sizeLine := by omega
  have tl : (txt l).length ≤ sizeLine := by rw [txt_len]; omega
  have g0 : (S ++ [Ob.ins 6 []])[S.length]? = some (.ins 6 []) := get_last
  have st0 := setFld_i (j := 0) (v := .tup [.int (w : Nat), .int (h : Nat)]) g0 rfl
  have g1 := set_get (u := .ins 6 [.tup [.int (w : Nat), .int (h : Nat)]]) g0
  have p1 : S <+: (S ++ [Ob.ins 6 []]).set S.length (.ins 6 [.tup [.int (w : Nat), .int (h : Nat)]]) := pre_put2 (List.prefix_append _ _) (Nat.le_refl _)
  refine ho_make ?_
  unfold g_TrayD_initD
  simp only [ho_ok, ho_ret, ho_bd, ho_bdI, ho_bdO, hos_nx, hos_rt, hos_bk, hos_ct, hos_onx, hos_ort, hos_exS, hos_exT, hos_exA, hos_exI, nxt_nx, nxt_rt, nxt_bk, nxt_ct, hos_seq, hos_asg, fin_nx, fin_rt, ho_body1, ho_body2, ho_body3, ho_body4, ho_meth, ho_bm, ho_prop, ho_if, hos_if, ho_and, ho_or, ho_andT, ho_orT, ho_ite, ho_chain, ret_d, ngW_b, blM_b, truM_b, getSl_0, getSl_s, lstM_d, tupM_d, add_ii, add_ss, sub_ii, mul_ii, fdiv_ii, mod_ii, pow_ii, lt_ii, le_ii, gt_ii, ge_ii, eq_ii, ne_ii, eq_ss, ne_ss, intM_i, lenM_t, ixM_t, seqV_s, seqV_t, partM_i, in_1, List.length_cons, List.length_nil, List.length_singleton, List.map_cons, List.map_nil, List.cons_append, List.nil_append, List.set_cons_zero, List.set_cons_succ, List.replicate_succ, List.replicate_zero, List.append_nil, Nat.reduceAdd, Nat.reduceSub, Nat.zero_add, Nat.sub_self, Nat.reduceEqDiff, Nat.reduceLeDiff, if_true, if_false, ite_true, ite_false, reduceIte, decide_true, decide_false, Bool.not_true, Bool.not_false, true_and, and_true, r_TrayD_initD, z0, z2, st0, listM_s, tl, txt_list, Bool.false_eq_true]
  generalize (S ++ [Ob.ins 6 []]).set S.length (.ins 6 [.tup [.int (w : Nat), .int (h : Nat)]]) = S1 at g1 p1 ⊢
  have hlt1 : S.length < S1.length := (List.getElem?_eq_some_iff.mp g1).1
  have g2 := get_app (T := [Ob.lst (l.map fun n => W.str ⟨#[n]⟩)]) g1
  have st1 := setFld_i (j := 1) (v := .ref S1.length) g2 rfl
  have g3 := set_get (u := .ins 6 [.tup [.int (w : Nat), .int (h : Nat)], .ref S1.length]) g2
  have gt3 := set_get2 (u := .ins 6 [.tup [.int (w : Nat), .int (h : Nat)], .ref S1.length]) (get_last (S := S1) (o := .lst (l.map fun n => W.str ⟨#[n]⟩))) (r := S.length) (by omega)
  have p3 : S <+: (S1 ++ [Ob.lst (l.map fun n => W.str ⟨#[n]⟩)]).set S.length (.ins 6 [.tup [.int (w : Nat), .int (h : Nat)], .ref S1.length]) := pre_put2 (p1.trans (List.prefix_append _ _)) (Nat.le_refl _)
  simp only [ho_ok, ho_ret, ho_bd, ho_bdI, ho_bdO, hos_nx, hos_rt, hos_bk, hos_ct, hos_onx, hos_ort, hos_exS, hos_exT, hos_exA, hos_exI, nxt_nx, nxt_rt, nxt_bk, nxt_ct, hos_seq, hos_asg, fin_nx, fin_rt, ho_body1, ho_body2, ho_body3, ho_body4, ho_meth, ho_bm, ho_prop, ho_if, hos_if, ho_and, ho_or, ho_andT, ho_orT, ho_ite, ho_chain, ret_d, ngW_b, blM_b, truM_b, getSl_0, getSl_s, lstM_d, tupM_d, add_ii, add_ss, sub_ii, mul_ii, fdiv_ii, mod_ii, pow_ii, lt_ii, le_ii, gt_ii, ge_ii, eq_ii, ne_ii, eq_ss, ne_ss, intM_i, lenM_t, ixM_t, seqV_s, seqV_t, partM_i, in_1, List.length_cons, List.length_nil, List.length_singleton, List.map_cons, List.map_nil, List.cons_append, List.nil_append, List.set_cons_zero, List.set_cons_succ, List.replicate_succ, List.replicate_zero, List.append_nil, Nat.reduceAdd, Nat.reduceSub, Nat.zero_add, Nat.sub_self, Nat.reduceEqDiff, Nat.reduceLeDiff, if_true, if_false, ite_true, ite_false, reduceIte, decide_true, decide_false, Bool.not_true, Bool.not_false, true_and, and_true, st1, z0]
  generalize S1.length = th at hlt1 g3 gt3 p3 ⊢
  generalize (S1 ++ [Ob.lst (l.map fun n => W.str ⟨#[n]⟩)]).set S.length (.ins 6 [.tup [.int (w : Nat), .int (h : Nat)], .ref th]) = S3 at g3 gt3 p3 ⊢
  have g4 := get_app (T := [Ob.lst []]) g3
  have st2 := setFld_i (j := 2) (v := .ref S3.length) g4 rfl
  simp only [ho_ok, ho_ret, ho_bd, ho_bdI, ho_bdO, hos_nx, hos_rt, hos_bk, hos_ct, hos_onx, hos_ort, hos_exS, hos_exT, hos_exA, hos_exI, nxt_nx, nxt_rt, nxt_bk, nxt_ct, hos_seq, hos_asg, fin_nx, fin_rt, ho_body1, ho_body2, ho_body3, ho_body4, ho_meth, ho_bm, ho_prop, ho_if, hos_if, ho_and, ho_or, ho_andT, ho_orT, ho_ite, ho_chain, ret_d, ngW_b, blM_b, truM_b, getSl_0, getSl_s, lstM_d, tupM_d, add_ii, add_ss, sub_ii, mul_ii, fdiv_ii, mod_ii, pow_ii, lt_ii, le_ii, gt_ii, ge_ii, eq_ii, ne_ii, eq_ss, ne_ss, intM_i, lenM_t, ixM_t, seqV_s, seqV_t, partM_i, in_1, List.length_cons, List.length_nil, List.length_singleton, List.map_cons, List.map_nil, List.cons_append, List.nil_append, List.set_cons_zero, List.set_cons_succ, List.replicate_succ, List.replicate_zero, List.append_nil, Nat.reduceAdd, Nat.reduceSub, Nat.zero_add, Nat.sub_self, Nat.reduceEqDiff, Nat.reduceLeDiff, if_true, if_false, ite_true, ite_false, reduceIte, decide_true, decide_false, Bool.not_true, Bool.not_false, true_and, and_true, st2]
  have hl3 := (List.getElem?_eq_some_iff.mp g3).1
  have ht3 := (List.getElem?_eq_some_iff.mp gt3).1
  exact ⟨pre_put2 (p3.trans (List.prefix_append _ _)) (Nat.le_refl _), th, _, by omega, set_get g4, set_get2 (get_app gt3) (by omega), by omega, by omega, set_get2 get_last (by omega), by omega, by omega⟩
/-- what lies there after a deed -/
def aft (w h : Nat) (d : Deed) (fr : W) (xs : List W) : List W := (List.range (w * h)).map fun x => match whence w h d x with
  | none => fr
  | some y => xs.getD y .non
def kindS : Deed → Str
  | .rake _ => Str.ofString "rake"
  | .comb _ => Str.ofString "comb"
  | .drop _ _ => Str.ofString "drop"
  | .paper _ => Str.ofString "paper"
theorem deed0 {S : Sto} (d : Deed) : ixM (deedW d) (.int 0) S = .ok (.str (kindS d)) S := by cases d <;> rfl
def isPaper : Deed → Bool
  | .paper _ => true
  | _ => false
def isDrop : Deed → Bool
  | .drop _ _ => true
  | _ => false
theorem kind_paper (d : Deed) : decide (kindS d = Str.ofString "paper") = isPaper d := by
  cases d with
  | rake _ => exact (show decide (Str.ofString "rake" = Str.ofString "paper") = false by decide +kernel)
  | comb _ => exact (show decide (Str.ofString "comb" = Str.ofString "paper") = false by decide +kernel)
  | drop _ _ => exact (show decide (Str.ofString "drop" = Str.ofString "paper") = false by decide +kernel)
  | paper _ => exact (show decide (Str.ofString "paper" = Str.ofString "paper") = true by decide +kernel)
theorem kind_drop (d : Deed) : decide (kindS d = Str.ofString "drop") = isDrop d := by
  cases d with
  | rake _ => exact (show decide (Str.ofString "rake" = Str.ofString "drop") = false by decide +kernel)
  | comb _ => exact (show decide (Str.ofString "comb" = Str.ofString "drop") = false by decide +kernel)
  | drop _ _ => exact (show decide (Str.ofString "drop" = Str.ofString "drop") = true by decide +kernel)
  | paper _ => exact (show decide (Str.ofString "paper" = Str.ofString "drop") = false by decide +kernel)
theorem kind_rake (d : Deed) : decide (kindS d = Str.ofString "rake") = (match d with | .rake _ => true | _ => false) := by
  cases d with
  | rake _ => exact (show decide (Str.ofString "rake" = Str.ofString "rake") = true by decide +kernel)
  | comb _ => exact (show decide (Str.ofString "comb" = Str.ofString "rake") = false by decide +kernel)
  | drop _ _ => exact (show decide (Str.ofString "drop" = Str.ofString "rake") = false by decide +kernel)
  | paper _ => exact (show decide (Str.ofString "paper" = Str.ofString "rake") = false by decide +kernel)
theorem getD_W {xs : List W} {y : Nat} (h : y < xs.length) : xs[y]? = some (xs.getD y .non) := by
  rw [List.getD_eq_getElem?_getD, List.getElem?_eq_getElem h]
  rfl
section
variable {S : Sto} {w h t th pp : Nat} {d : Deed} {xs ps : List W} {fr : W}
/-- a tray does a deed -/
structure Did (S S' : Sto) (t w h pp : Nat) (d : Deed) (fr : W) (xs ps : List W) : Prop where
  len : S.length ≤ S'.length
  keep : ∀ i o, i ≠ t → i ≠ pp → S[i]? = some o → S'[i]? = some o
  now : ∃ th', th' ≠ t ∧ pp ≠ th' ∧ S.length ≤ th' ∧ IsTray S' t w h th' pp ∧ S'[th']? = some (.lst (aft w h d fr xs))
  pap : (isPaper d = false → S'[pp]? = some (.lst ps)) ∧ ∀ cs, d = .paper cs → ∃ a, S.length ≤ a ∧ a ≠ t ∧ a ≠ pp ∧ S'[pp]? = some (.lst (ps ++ [.ref a])) ∧ S'[a]? = some (.lst (cs.map fun x => xs.getD x .non))
theorem do_ways (hw : 0 < w) (hh : 0 < h) (hxs : xs.length = w * h) (hwh : w * h ≤ 12) (ok : d.Ok w h) (hd : isPaper d = false) (ht : IsTray S t w h th pp) (hth : S[th]? = some (.lst xs)) (hpp : S[pp]? = some (.lst ps)) (n2 : pp ≠ t) {j : Nat} {S1 : Sto} (p1 : S <+: S1) (g1 : S1[j]? = some (.lst (ways w h d))) {sl0 : Slots} {elt : Slots → M W}
    (he : ∀ x, x < w * h → elt (sl0.set 5 (some (wayW (whence w h d x)))) S1 = .ok (match whence w h d x with | none => fr | some y => xs.getD y .non) S1) :
    Ho (lcV (fun S => seqOf S j) (Tgt.one 5).g (fun _ => RP.ret true) elt sl0 S1) (fun v S' => S' = S1 ++ [.lst (aft w h d fr xs)] ∧ v = .ref S1.length) noX := by
  have hz2 := sizeLine_big
  refine ho_lc (ws := ways w h d) (fun n acc S' => S' = S1 ∧ acc = (aft w h d fr xs).take n) ⟨rfl, rfl⟩ (fun _ _ _ h => by rw [h.1]; exact seq_lst g1) (fun n u acc S' hw1 hp => ?_) fun acc S' hp => ?_
  · obtain ⟨rfl, rfl⟩ := hp
    unfold ways at hw1
    obtain ⟨x, hx, rfl⟩ := map_at hw1
    have hn : n < w * h := by
      have := (List.getElem?_eq_some_iff.mp hx).1
      simpa using this
    rw [List.getElem?_range hn] at hx
    cases hx
    have e1 : (Tgt.one 5).g (wayW (whence w h d n)) sl0 S' = .ok (sl0.set 5 (some (wayW (whence w h d n)))) S' := rfl
    rw [e1]
    simp only [ho_ok, ho_ret, he n hn]
    refine ⟨?_, trivial, ?_⟩
    · rw [List.length_take]
      have : (aft w h d fr xs).length = w * h := by simp [aft]
      omega
    · have e2 : (aft w h d fr xs)[n]? = some (match whence w h d n with | none => fr | some y => xs.getD y .non) := by
        unfold aft
        rw [List.getElem?_map, List.getElem?_range hn]
        rfl
      rw [List.take_add_one, e2]
      rfl
  · obtain ⟨rfl, rfl⟩ := hp
    have e : (aft w h d fr xs).take (ways w h d).length = aft w h d fr xs := by
      rw [List.take_of_length_le]
      simp [aft, ways]
    rw [e]
    exact ⟨rfl, rfl⟩
theorem do_ok (hw : 0 < w) (hh : 0 < h) (w5 : w ≤ 5) (h5 : h ≤ 5) (hxs : xs.length = w * h) (hwh : w * h ≤ 12) (hps : ps.length ≤ 100) (ok : d.Ok w h) (ht : IsTray S t w h th pp) (hth : S[th]? = some (.lst xs)) (hpp : S[pp]? = some (.lst ps)) (n1 : th ≠ t) (n2 : pp ≠ t) (n3 : pp ≠ th) :
    Ho (g_Tray_do [.ref t, deedW d, fr] S) (fun v S' => v = .non ∧ Did S S' t w h pp d fr xs ps) noX := by
  have hz2 := sizeLine_big
  have z2 : (2 : Nat) ≤ sizeLine := by omega
  have fl0 := fld_i (j := 0) ht rfl
  have fl1 := fld_i (j := 1) ht rfl
  have fl2 := fld_i (j := 2) ht rfl
  have kp := kind_paper d
  have kd := kind_drop d
  have lt1 := (List.getElem?_eq_some_iff.mp ht).1
  have lt2 := (List.getElem?_eq_some_iff.mp hpp).1
  have lt3 := (List.getElem?_eq_some_iff.mp hth).1
  -- the last statement, for whatever ways
  have last : ∀ {j : Nat} {S1 : Sto}, isPaper d = false → S <+: S1 → S1[j]? = some (.lst (ways w h d)) → Did S ((S1 ++ [Ob.lst (aft w h d fr xs)]).set t (.ins 6 [.tup [.int (w : Nat), .int (h : Nat)], .ref S1.length, .ref pp])) t w h pp d fr xs ps ∧ True := fun {j S1} hd p1 g1 => by
    have l1 := p1.length_le
    refine ⟨⟨by simp; omega, fun i o h1 h2 h3 => set_get2 (get_app (Ext.get p1 h3)) h1, ⟨S1.length, by omega, by omega, l1, ?_, set_get2 get_last (by omega)⟩, fun _ => set_get2 (get_app (Ext.get p1 hpp)) n2, fun cs e => by rw [e] at hd; cases hd⟩, trivial⟩
    exact set_get (get_app (Ext.get p1 ht))
  cases hd : isPaper d with
  | false =>
    rw [hd] at kp
    cases hdr : isDrop d with
    | false =>
      rw [hdr] at kd
      have hrc : (∃ ss, d = .rake ss) ∨ ∃ ss, d = .comb ss := by
        cases d with
        | rake ss => exact .inl ⟨ss, rfl⟩
        | comb ss => exact .inr ⟨ss, rfl⟩
        | drop c x => cases hdr
        | paper cs => cases hd
      unfold g_Tray_do
      simp only [ho_ok, ho_ret, ho_bd, ho_bdI, ho_bdO, hos_nx, hos_rt, hos_bk, hos_ct, hos_onx, hos_ort, hos_exS, hos_exT, hos_exA, hos_exI, nxt_nx, nxt_rt, nxt_bk, nxt_ct, hos_seq, hos_asg, fin_nx, fin_rt, ho_body1, ho_body2, ho_body3, ho_body4, ho_meth, ho_bm, ho_prop, ho_if, hos_if, ho_and, ho_or, ho_andT, ho_orT, ho_ite, ho_chain, ret_d, ngW_b, blM_b, truM_b, getSl_0, getSl_s, lstM_d, tupM_d, add_ii, add_ss, sub_ii, mul_ii, fdiv_ii, mod_ii, pow_ii, lt_ii, le_ii, gt_ii, ge_ii, eq_ii, ne_ii, eq_ss, ne_ss, intM_i, lenM_t, ixM_t, seqV_s, seqV_t, partM_i, in_1, List.length_cons, List.length_nil, List.length_singleton, List.map_cons, List.map_nil, List.cons_append, List.nil_append, List.set_cons_zero, List.set_cons_succ, List.replicate_succ, List.replicate_zero, List.append_nil, Nat.reduceAdd, Nat.reduceSub, Nat.zero_add, Nat.sub_self, Nat.reduceEqDiff, Nat.reduceLeDiff, if_true, if_false, ite_true, ite_false, reduceIte, decide_true, decide_false, Bool.not_true, Bool.not_false, true_and, and_true, r_Tray_do, fl0, unpM, thenG, z2, deed0, kp, kd]
      refine Ho.call (drawn_ok hw hh w5 h5 ok hrc S) ?_
      rintro v S1 ⟨j, rfl, p1, g1⟩
      have ht1 := Ext.get p1 ht
      have hth1 := Ext.get p1 hth
      have fl3 := fld_i (j := 1) ht1 rfl
      simp only [ho_ok, ho_ret, ho_bd, ho_bdI, ho_bdO, hos_nx, hos_rt, hos_bk, hos_ct, hos_onx, hos_ort, hos_exS, hos_exT, hos_exA, hos_exI, nxt_nx, nxt_rt, nxt_bk, nxt_ct, hos_seq, hos_asg, fin_nx, fin_rt, ho_body1, ho_body2, ho_body3, ho_body4, ho_meth, ho_bm, ho_prop, ho_if, hos_if, ho_and, ho_or, ho_andT, ho_orT, ho_ite, ho_chain, ret_d, ngW_b, blM_b, truM_b, getSl_0, getSl_s, lstM_d, tupM_d, add_ii, add_ss, sub_ii, mul_ii, fdiv_ii, mod_ii, pow_ii, lt_ii, le_ii, gt_ii, ge_ii, eq_ii, ne_ii, eq_ss, ne_ss, intM_i, lenM_t, ixM_t, seqV_s, seqV_t, partM_i, in_1, List.length_cons, List.length_nil, List.length_singleton, List.map_cons, List.map_nil, List.cons_append, List.nil_append, List.set_cons_zero, List.set_cons_succ, List.replicate_succ, List.replicate_zero, List.append_nil, Nat.reduceAdd, Nat.reduceSub, Nat.zero_add, Nat.sub_self, Nat.reduceEqDiff, Nat.reduceLeDiff, if_true, if_false, ite_true, ite_false, reduceIte, decide_true, decide_false, Bool.not_true, Bool.not_false, true_and, and_true, seqV_r (seq_lst g1)]
      refine Ho.imp (do_ways (fr := fr) hw hh hxs hwh ok hd ht hth hpp n2 p1 g1 fun x hx => ?_) ?_
      · cases e : whence w h d x with
        | none => simp only [bd_d, iteM_d, wayW, wipeS, List.set_cons_succ, List.set_cons_zero, getSl_s, getSl_0, ret_d, pyIs_non, isNon_n, blM_b, if_true]
        | some y =>
          have hy := whence_lt hw hh ok hx e
          have hat : atI xs ((y : Nat) : Int) = some (xs.getD y .non) := atI_n (getD_W (by omega))
          simp only [bd_d, iteM_d, wayW, wipeS, List.set_cons_succ, List.set_cons_zero, getSl_s, getSl_0, ret_d, pyIs_non, isNon_i, blM_b, if_true, fl3, ixM_r _ (seq_lst hth1), hat]
      · rintro v S2 ⟨rfl, rfl⟩
        have st := setFld_i (j := 1) (v := .ref S1.length) (get_app (T := [Ob.lst (aft w h d fr xs)]) ht1) rfl
        simp only [ho_ok, ho_ret, ho_bd, ho_bdI, ho_bdO, hos_nx, hos_rt, hos_bk, hos_ct, hos_onx, hos_ort, hos_exS, hos_exT, hos_exA, hos_exI, nxt_nx, nxt_rt, nxt_bk, nxt_ct, hos_seq, hos_asg, fin_nx, fin_rt, ho_body1, ho_body2, ho_body3, ho_body4, ho_meth, ho_bm, ho_prop, ho_if, hos_if, ho_and, ho_or, ho_andT, ho_orT, ho_ite, ho_chain, ret_d, ngW_b, blM_b, truM_b, getSl_0, getSl_s, lstM_d, tupM_d, add_ii, add_ss, sub_ii, mul_ii, fdiv_ii, mod_ii, pow_ii, lt_ii, le_ii, gt_ii, ge_ii, eq_ii, ne_ii, eq_ss, ne_ss, intM_i, lenM_t, ixM_t, seqV_s, seqV_t, partM_i, in_1, List.length_cons, List.length_nil, List.length_singleton, List.map_cons, List.map_nil, List.cons_append, List.nil_append, List.set_cons_zero, List.set_cons_succ, List.replicate_succ, List.replicate_zero, List.append_nil, Nat.reduceAdd, Nat.reduceSub, Nat.zero_add, Nat.sub_self, Nat.reduceEqDiff, Nat.reduceLeDiff, if_true, if_false, ite_true, ite_false, reduceIte, decide_true, decide_false, Bool.not_true, Bool.not_false, true_and, and_true, st]
        exact ((last hd p1 g1).1)
    | true =>
      rw [hdr] at kd
      cases d with
      | drop c x =>
        have a1 : ixM (deedW (.drop c x)) (.int 1) S = .ok (.int (c : Nat)) S := rfl
        unfold g_Tray_do
        simp only [ho_ok, ho_ret, ho_bd, ho_bdI, ho_bdO, hos_nx, hos_rt, hos_bk, hos_ct, hos_onx, hos_ort, hos_exS, hos_exT, hos_exA, hos_exI, nxt_nx, nxt_rt, nxt_bk, nxt_ct, hos_seq, hos_asg, fin_nx, fin_rt, ho_body1, ho_body2, ho_body3, ho_body4, ho_meth, ho_bm, ho_prop, ho_if, hos_if, ho_and, ho_or, ho_andT, ho_orT, ho_ite, ho_chain, ret_d, ngW_b, blM_b, truM_b, getSl_0, getSl_s, lstM_d, tupM_d, add_ii, add_ss, sub_ii, mul_ii, fdiv_ii, mod_ii, pow_ii, lt_ii, le_ii, gt_ii, ge_ii, eq_ii, ne_ii, eq_ss, ne_ss, intM_i, lenM_t, ixM_t, seqV_s, seqV_t, partM_i, in_1, List.length_cons, List.length_nil, List.length_singleton, List.map_cons, List.map_nil, List.cons_append, List.nil_append, List.set_cons_zero, List.set_cons_succ, List.replicate_succ, List.replicate_zero, List.append_nil, Nat.reduceAdd, Nat.reduceSub, Nat.zero_add, Nat.sub_self, Nat.reduceEqDiff, Nat.reduceLeDiff, if_true, if_false, ite_true, ite_false, reduceIte, decide_true, decide_false, Bool.not_true, Bool.not_false, true_and, and_true, r_Tray_do, fl0, unpM, thenG, z2, deed0, kp, kd, a1]
        refine Ho.call (pushed_ok (x := x) hw hh w5 h5 ok.1 S) ?_
        rintro v S1 ⟨j, rfl, p1, g1⟩
        have ht1 := Ext.get p1 ht
        have hth1 := Ext.get p1 hth
        have fl3 := fld_i (j := 1) ht1 rfl
        simp only [ho_ok, ho_ret, ho_bd, ho_bdI, ho_bdO, hos_nx, hos_rt, hos_bk, hos_ct, hos_onx, hos_ort, hos_exS, hos_exT, hos_exA, hos_exI, nxt_nx, nxt_rt, nxt_bk, nxt_ct, hos_seq, hos_asg, fin_nx, fin_rt, ho_body1, ho_body2, ho_body3, ho_body4, ho_meth, ho_bm, ho_prop, ho_if, hos_if, ho_and, ho_or, ho_andT, ho_orT, ho_ite, ho_chain, ret_d, ngW_b, blM_b, truM_b, getSl_0, getSl_s, lstM_d, tupM_d, add_ii, add_ss, sub_ii, mul_ii, fdiv_ii, mod_ii, pow_ii, lt_ii, le_ii, gt_ii, ge_ii, eq_ii, ne_ii, eq_ss, ne_ss, intM_i, lenM_t, ixM_t, seqV_s, seqV_t, partM_i, in_1, List.length_cons, List.length_nil, List.length_singleton, List.map_cons, List.map_nil, List.cons_append, List.nil_append, List.set_cons_zero, List.set_cons_succ, List.replicate_succ, List.replicate_zero, List.append_nil, Nat.reduceAdd, Nat.reduceSub, Nat.zero_add, Nat.sub_self, Nat.reduceEqDiff, Nat.reduceLeDiff, if_true, if_false, ite_true, ite_false, reduceIte, decide_true, decide_false, Bool.not_true, Bool.not_false, true_and, and_true, seqV_r (seq_lst g1)]
        refine Ho.imp (do_ways (fr := fr) hw hh hxs hwh ok hd ht hth hpp n2 p1 g1 fun x' hx => ?_) ?_
        · cases e : whence w h (.drop c x) x' with
          | none => simp only [bd_d, iteM_d, wayW, wipeS, List.set_cons_succ, List.set_cons_zero, getSl_s, getSl_0, ret_d, pyIs_non, isNon_n, blM_b, if_true]
          | some y =>
            have hy := whence_lt hw hh ok hx e
            have hat : atI xs ((y : Nat) : Int) = some (xs.getD y .non) := atI_n (getD_W (by omega))
            simp only [bd_d, iteM_d, wayW, wipeS, List.set_cons_succ, List.set_cons_zero, getSl_s, getSl_0, ret_d, pyIs_non, isNon_i, blM_b, if_true, fl3, ixM_r _ (seq_lst hth1), hat]
        · rintro v S2 ⟨rfl, rfl⟩
          have st := setFld_i (j := 1) (v := .ref S1.length) (get_app (T := [Ob.lst (aft w h (.drop c x) fr xs)]) ht1) rfl
          simp only [ho_ok, ho_ret, ho_bd, ho_bdI, ho_bdO, hos_nx, hos_rt, hos_bk, hos_ct, hos_onx, hos_ort, hos_exS, hos_exT, hos_exA, hos_exI, nxt_nx, nxt_rt, nxt_bk, nxt_ct, hos_seq, hos_asg, fin_nx, fin_rt, ho_body1, ho_body2, ho_body3, ho_body4, ho_meth, ho_bm, ho_prop, ho_if, hos_if, ho_and, ho_or, ho_andT, ho_orT, ho_ite, ho_chain, ret_d, ngW_b, blM_b, truM_b, getSl_0, getSl_s, lstM_d, tupM_d, add_ii, add_ss, sub_ii, mul_ii, fdiv_ii, mod_ii, pow_ii, lt_ii, le_ii, gt_ii, ge_ii, eq_ii, ne_ii, eq_ss, ne_ss, intM_i, lenM_t, ixM_t, seqV_s, seqV_t, partM_i, in_1, List.length_cons, List.length_nil, List.length_singleton, List.map_cons, List.map_nil, List.cons_append, List.nil_append, List.set_cons_zero, List.set_cons_succ, List.replicate_succ, List.replicate_zero, List.append_nil, Nat.reduceAdd, Nat.reduceSub, Nat.zero_add, Nat.sub_self, Nat.reduceEqDiff, Nat.reduceLeDiff, if_true, if_false, ite_true, ite_false, reduceIte, decide_true, decide_false, Bool.not_true, Bool.not_false, true_and, and_true, st]
          exact ((last hd p1 g1).1)
      | rake ss => cases hdr
      | comb ss => cases hdr
      | paper cs => cases hdr
  | true =>
    rw [hd] at kp
    cases d with
    | rake ss => cases hd
    | comb ss => cases hd
    | drop c x => cases hd
    | paper cs =>
      obtain ⟨c0, c1, c2, cl⟩ := ok
      have a1 : ∀ S : Sto, ixM (deedW (.paper cs)) (.int 1) S = .ok (.tup (nums cs)) S := fun _ => rfl
      unfold g_Tray_do
      simp only [ho_ok, ho_ret, ho_bd, ho_bdI, ho_bdO, hos_nx, hos_rt, hos_bk, hos_ct, hos_onx, hos_ort, hos_exS, hos_exT, hos_exA, hos_exI, nxt_nx, nxt_rt, nxt_bk, nxt_ct, hos_seq, hos_asg, fin_nx, fin_rt, ho_body1, ho_body2, ho_body3, ho_body4, ho_meth, ho_bm, ho_prop, ho_if, hos_if, ho_and, ho_or, ho_andT, ho_orT, ho_ite, ho_chain, ret_d, ngW_b, blM_b, truM_b, getSl_0, getSl_s, lstM_d, tupM_d, add_ii, add_ss, sub_ii, mul_ii, fdiv_ii, mod_ii, pow_ii, lt_ii, le_ii, gt_ii, ge_ii, eq_ii, ne_ii, eq_ss, ne_ss, intM_i, lenM_t, ixM_t, seqV_s, seqV_t, partM_i, in_1, List.length_cons, List.length_nil, List.length_singleton, List.map_cons, List.map_nil, List.cons_append, List.nil_append, List.set_cons_zero, List.set_cons_succ, List.replicate_succ, List.replicate_zero, List.append_nil, Nat.reduceAdd, Nat.reduceSub, Nat.zero_add, Nat.sub_self, Nat.reduceEqDiff, Nat.reduceLeDiff, if_true, if_false, ite_true, ite_false, reduceIte, decide_true, decide_false, Bool.not_true, Bool.not_false, true_and, and_true, r_Tray_do, fl0, unpM, thenG, z2, deed0, kp, a1, fl2, tyN_lst hpp]
      refine ho_lc (ws := nums cs) (fun n acc S' => S' = S ∧ acc = (cs.take n).map fun x => xs.getD x .non) ⟨rfl, rfl⟩ (fun _ _ _ _ => rfl) (fun n u acc S' hw1 hp => ?_) fun acc S' hp => ?_
      · obtain ⟨rfl, rfl⟩ := hp
        obtain ⟨x, hx, rfl⟩ := nums_at hw1
        have hat : atI xs (x : Int) = some (xs.getD x .non) := atI_n (getD_W (by rw [hxs]; exact c2 x (List.mem_of_getElem? hx)))
        simp only [ho_ok, ho_ret, ho_bd, ho_bdI, ho_bdO, hos_nx, hos_rt, hos_bk, hos_ct, hos_onx, hos_ort, hos_exS, hos_exT, hos_exA, hos_exI, nxt_nx, nxt_rt, nxt_bk, nxt_ct, hos_seq, hos_asg, fin_nx, fin_rt, ho_body1, ho_body2, ho_body3, ho_body4, ho_meth, ho_bm, ho_prop, ho_if, hos_if, ho_and, ho_or, ho_andT, ho_orT, ho_ite, ho_chain, ret_d, ngW_b, blM_b, truM_b, getSl_0, getSl_s, lstM_d, tupM_d, add_ii, add_ss, sub_ii, mul_ii, fdiv_ii, mod_ii, pow_ii, lt_ii, le_ii, gt_ii, ge_ii, eq_ii, ne_ii, eq_ss, ne_ss, intM_i, lenM_t, ixM_t, seqV_s, seqV_t, partM_i, in_1, List.length_cons, List.length_nil, List.length_singleton, List.map_cons, List.map_nil, List.cons_append, List.nil_append, List.set_cons_zero, List.set_cons_succ, List.replicate_succ, List.replicate_zero, List.append_nil, Nat.reduceAdd, Nat.reduceSub, Nat.zero_add, Nat.sub_self, Nat.reduceEqDiff, Nat.reduceLeDiff, if_true, if_false, ite_true, ite_false, reduceIte, decide_true, decide_false, Bool.not_true, Bool.not_false, true_and, and_true, Tgt.g, wipeS, fl1, ixM_r _ (seq_lst hth), hat]
        refine ⟨?_, ?_⟩
        · simp
          omega
        · rw [List.take_add_one, hx]
          simp
      · obtain ⟨rfl, rfl⟩ := hp
        rw [nums_len, List.take_length]
        generalize hpz : cs.map (fun x => xs.getD x .non) = pz
        have hpp1 := get_app (T := [Ob.lst pz]) hpp
        have ht1 := get_app (T := [Ob.lst pz]) ht
        have hth1 := get_app (T := [Ob.lst pz]) hth
        have ga1 : (S' ++ [Ob.lst pz])[S'.length]? = _ := get_last
        have ap := app_l (y := .ref S'.length) hpp1 (show ps.length < sizeLine by omega)
        have hpp2 := set_get (u := .lst (ps ++ [.ref S'.length])) hpp1
        have ht2 := set_get2 (u := .lst (ps ++ [.ref S'.length])) ht1 (Ne.symm n2)
        have hth2 := set_get2 (u := .lst (ps ++ [.ref S'.length])) hth1 (Ne.symm n3)
        have ga2 := set_get2 (u := .lst (ps ++ [.ref S'.length])) ga1 (r := pp) (by omega)
        have fr2 : ∀ i o, i ≠ t → i ≠ pp → S'[i]? = some o → ((S' ++ [Ob.lst pz]).set pp (.lst (ps ++ [.ref S'.length])))[i]? = some o := fun i o _ h2 h3 => set_get2 (get_app h3) h2
        have ln2 : S'.length ≤ ((S' ++ [Ob.lst pz]).set pp (.lst (ps ++ [.ref S'.length]))).length := by simp
        simp only [ho_ok, ho_ret, ho_bd, ho_bdI, ho_bdO, hos_nx, hos_rt, hos_bk, hos_ct, hos_onx, hos_ort, hos_exS, hos_exT, hos_exA, hos_exI, nxt_nx, nxt_rt, nxt_bk, nxt_ct, hos_seq, hos_asg, fin_nx, fin_rt, ho_body1, ho_body2, ho_body3, ho_body4, ho_meth, ho_bm, ho_prop, ho_if, hos_if, ho_and, ho_or, ho_andT, ho_orT, ho_ite, ho_chain, ret_d, ngW_b, blM_b, truM_b, getSl_0, getSl_s, lstM_d, tupM_d, add_ii, add_ss, sub_ii, mul_ii, fdiv_ii, mod_ii, pow_ii, lt_ii, le_ii, gt_ii, ge_ii, eq_ii, ne_ii, eq_ss, ne_ss, intM_i, lenM_t, ixM_t, seqV_s, seqV_t, partM_i, in_1, List.length_cons, List.length_nil, List.length_singleton, List.map_cons, List.map_nil, List.cons_append, List.nil_append, List.set_cons_zero, List.set_cons_succ, List.replicate_succ, List.replicate_zero, List.append_nil, Nat.reduceAdd, Nat.reduceSub, Nat.zero_add, Nat.sub_self, Nat.reduceEqDiff, Nat.reduceLeDiff, if_true, if_false, ite_true, ite_false, reduceIte, decide_true, decide_false, Bool.not_true, Bool.not_false, true_and, and_true, ap]
        generalize (S' ++ [Ob.lst pz]).set pp (.lst (ps ++ [.ref S'.length])) = S2 at hpp2 ht2 hth2 ga2 fr2 ln2 ⊢
        have fl3 := fld_i (j := 1) ht2 rfl
        simp only [ho_ok, ho_ret, ho_bd, ho_bdI, ho_bdO, hos_nx, hos_rt, hos_bk, hos_ct, hos_onx, hos_ort, hos_exS, hos_exT, hos_exA, hos_exI, nxt_nx, nxt_rt, nxt_bk, nxt_ct, hos_seq, hos_asg, fin_nx, fin_rt, ho_body1, ho_body2, ho_body3, ho_body4, ho_meth, ho_bm, ho_prop, ho_if, hos_if, ho_and, ho_or, ho_andT, ho_orT, ho_ite, ho_chain, ret_d, ngW_b, blM_b, truM_b, getSl_0, getSl_s, lstM_d, tupM_d, add_ii, add_ss, sub_ii, mul_ii, fdiv_ii, mod_ii, pow_ii, lt_ii, le_ii, gt_ii, ge_ii, eq_ii, ne_ii, eq_ss, ne_ss, intM_i, lenM_t, ixM_t, seqV_s, seqV_t, partM_i, in_1, List.length_cons, List.length_nil, List.length_singleton, List.map_cons, List.map_nil, List.cons_append, List.nil_append, List.set_cons_zero, List.set_cons_succ, List.replicate_succ, List.replicate_zero, List.append_nil, Nat.reduceAdd, Nat.reduceSub, Nat.zero_add, Nat.sub_self, Nat.reduceEqDiff, Nat.reduceLeDiff, if_true, if_false, ite_true, ite_false, reduceIte, decide_true, decide_false, Bool.not_true, Bool.not_false, true_and, and_true, fl3, enumV_r (seq_lst hth2)]
        refine ho_lc (ws := enumL xs) (fun n acc S3 => S3 = S2 ∧ acc = (aft w h (.paper cs) fr xs).take n) ⟨rfl, rfl⟩ (fun _ _ _ hp => by rw [hp.1, seq_lst hth2]; rfl) (fun n u acc S3 hw1 hp => ?_) fun acc S3 hp => ?_
        · obtain ⟨rfl, rfl⟩ := hp
          rw [enumL_get] at hw1
          have hnl : n < xs.length := by
            cases q : xs[n]? with
            | none => rw [q] at hw1; cases hw1
            | some v => exact (List.getElem?_eq_some_iff.mp q).1
          rw [getD_W hnl] at hw1
          cases hw1
          have hln : ((aft w h (.paper cs) fr xs).take n).length < sizeLine := by
            rw [List.length_take]
            omega
          have e2 : (aft w h (.paper cs) fr xs)[n]? = some (if n ∈ cs then fr else xs.getD n .non) := by
            unfold aft
            rw [List.getElem?_map, List.getElem?_range (by omega), Option.map_some, whence_paper]
            by_cases hx : n ∈ cs
            · rw [if_pos hx, if_pos hx]
            · rw [if_neg hx, if_neg hx]
          by_cases hx : n ∈ cs
          · rw [if_pos hx] at e2
            simp only [ho_ok, ho_ret, ho_bd, ho_bdI, ho_bdO, hos_nx, hos_rt, hos_bk, hos_ct, hos_onx, hos_ort, hos_exS, hos_exT, hos_exA, hos_exI, nxt_nx, nxt_rt, nxt_bk, nxt_ct, hos_seq, hos_asg, fin_nx, fin_rt, ho_body1, ho_body2, ho_body3, ho_body4, ho_meth, ho_bm, ho_prop, ho_if, hos_if, ho_and, ho_or, ho_andT, ho_orT, ho_ite, ho_chain, ret_d, ngW_b, blM_b, truM_b, getSl_0, getSl_s, lstM_d, tupM_d, add_ii, add_ss, sub_ii, mul_ii, fdiv_ii, mod_ii, pow_ii, lt_ii, le_ii, gt_ii, ge_ii, eq_ii, ne_ii, eq_ss, ne_ss, intM_i, lenM_t, ixM_t, seqV_s, seqV_t, partM_i, in_1, List.length_cons, List.length_nil, List.length_singleton, List.map_cons, List.map_nil, List.cons_append, List.nil_append, List.set_cons_zero, List.set_cons_succ, List.replicate_succ, List.replicate_zero, List.append_nil, Nat.reduceAdd, Nat.reduceSub, Nat.zero_add, Nat.sub_self, Nat.reduceEqDiff, Nat.reduceLeDiff, if_true, if_false, ite_true, ite_false, reduceIte, decide_true, decide_false, Bool.not_true, Bool.not_false, true_and, and_true, Tgt.g, wipeS, setAll, List.zip_cons_cons, List.zip_nil_right, List.zip_nil_left, List.foldl_cons, List.foldl_nil, a1, nums_in, hx]
            refine ⟨hln, ?_⟩
            rw [List.take_add_one, e2]
            rfl
          · rw [if_neg hx] at e2
            simp only [ho_ok, ho_ret, ho_bd, ho_bdI, ho_bdO, hos_nx, hos_rt, hos_bk, hos_ct, hos_onx, hos_ort, hos_exS, hos_exT, hos_exA, hos_exI, nxt_nx, nxt_rt, nxt_bk, nxt_ct, hos_seq, hos_asg, fin_nx, fin_rt, ho_body1, ho_body2, ho_body3, ho_body4, ho_meth, ho_bm, ho_prop, ho_if, hos_if, ho_and, ho_or, ho_andT, ho_orT, ho_ite, ho_chain, ret_d, ngW_b, blM_b, truM_b, getSl_0, getSl_s, lstM_d, tupM_d, add_ii, add_ss, sub_ii, mul_ii, fdiv_ii, mod_ii, pow_ii, lt_ii, le_ii, gt_ii, ge_ii, eq_ii, ne_ii, eq_ss, ne_ss, intM_i, lenM_t, ixM_t, seqV_s, seqV_t, partM_i, in_1, List.length_cons, List.length_nil, List.length_singleton, List.map_cons, List.map_nil, List.cons_append, List.nil_append, List.set_cons_zero, List.set_cons_succ, List.replicate_succ, List.replicate_zero, List.append_nil, Nat.reduceAdd, Nat.reduceSub, Nat.zero_add, Nat.sub_self, Nat.reduceEqDiff, Nat.reduceLeDiff, if_true, if_false, ite_true, ite_false, reduceIte, decide_true, decide_false, Bool.not_true, Bool.not_false, true_and, and_true, Tgt.g, wipeS, setAll, List.zip_cons_cons, List.zip_nil_right, List.zip_nil_left, List.foldl_cons, List.foldl_nil, a1, nums_in, hx]
            refine ⟨hln, ?_⟩
            rw [List.take_add_one, e2]
            rfl
        · obtain ⟨rfl, rfl⟩ := hp
          have e : (aft w h (.paper cs) fr xs).take (enumL xs).length = aft w h (.paper cs) fr xs := by
            rw [List.take_of_length_le]
            rw [enumL_len]
            simp [aft, hxs]
          rw [e]
          have ht3 := get_app (T := [Ob.lst (aft w h (.paper cs) fr xs)]) ht2
          have st := setFld_i (j := 1) (v := .ref S3.length) ht3 rfl
          simp only [ho_ok, ho_ret, ho_bd, ho_bdI, ho_bdO, hos_nx, hos_rt, hos_bk, hos_ct, hos_onx, hos_ort, hos_exS, hos_exT, hos_exA, hos_exI, nxt_nx, nxt_rt, nxt_bk, nxt_ct, hos_seq, hos_asg, fin_nx, fin_rt, ho_body1, ho_body2, ho_body3, ho_body4, ho_meth, ho_bm, ho_prop, ho_if, hos_if, ho_and, ho_or, ho_andT, ho_orT, ho_ite, ho_chain, ret_d, ngW_b, blM_b, truM_b, getSl_0, getSl_s, lstM_d, tupM_d, add_ii, add_ss, sub_ii, mul_ii, fdiv_ii, mod_ii, pow_ii, lt_ii, le_ii, gt_ii, ge_ii, eq_ii, ne_ii, eq_ss, ne_ss, intM_i, lenM_t, ixM_t, seqV_s, seqV_t, partM_i, in_1, List.length_cons, List.length_nil, List.length_singleton, List.map_cons, List.map_nil, List.cons_append, List.nil_append, List.set_cons_zero, List.set_cons_succ, List.replicate_succ, List.replicate_zero, List.append_nil, Nat.reduceAdd, Nat.reduceSub, Nat.zero_add, Nat.sub_self, Nat.reduceEqDiff, Nat.reduceLeDiff, if_true, if_false, ite_true, ite_false, reduceIte, decide_true, decide_false, Bool.not_true, Bool.not_false, true_and, and_true, st]
          refine ⟨by simp; omega, fun i o h1 h2 h3 => set_get2 (get_app (fr2 i o h1 h2 h3)) h1, ⟨S3.length, by omega, by omega, by omega, set_get ht3, set_get2 get_last (by omega)⟩, ⟨fun z => (by cases z), fun cs' e => ?_⟩⟩
          cases e
          exact ⟨S'.length, by omega, by omega, by omega, set_get2 (get_app hpp2) n2, by rw [hpz]; exact set_get2 (get_app ga2) (by omega)⟩
end
end Lw


namespace Lw
open PySem L2 RP
theorem Dm.tupL {S : Sto} {n : Nat} (l : List (W × PyData)) (h : ∀ p ∈ l, Dm n S p.1 p.2) : Dm (n + 1) S (.tup (l.map Prod.fst)) (.tuple (l.map Prod.snd)) := Dm.tup h
theorem lets_in : ∀ c ∈ lets, c ∈ (Str.ofString "abcdefghijklmnopqrstuvwxyz").cps.toList := by decide +kernel
theorem lets_sgs : ∀ c ∈ lets, c ∈ sgs := by decide
theorem one_ok {c : Nat} (h : c ∈ sgs) : PyData.strOk (one c) = true := by
  have h2 : ∀ c ∈ sgs, c < 1114112 := by decide
  unfold PyData.strOk one
  rw [Array.all_eq_true]
  intro i hi
  have e : i = 0 := by
    simp at hi
    exact hi
  subst e
  exact decide_eq_true (h2 c h)
section
variable {S : Sto} {w h : Nat} {d : Deed}
theorem deed_ne0 (ok : d.Ok w h) : pyEq (deedW d) (.tup []) S = .ok (.bl false) S := by
  have e0 := (nums_dm (S := S) (n := 0) []).at9 (by omega)
  cases d with
  | rake ss =>
    have := Dm.tupL (S := S) (n := 1) [(.str (Str.ofString "rake"), .str (Str.ofString "rake")), (.tup (ss.map W.int), .tuple (ss.map PyData.int))] (fun p hp => by
      simp only [List.mem_cons, List.not_mem_nil, or_false] at hp
      rcases hp with rfl | rfl
      · exact Dm.str (by decide +kernel)
      · exact Dm.tup fun a _ => Dm.int a)
    exact (this.at9 (by omega)).eq e0 rfl
  | comb ss =>
    have := Dm.tupL (S := S) (n := 1) [(.str (Str.ofString "comb"), .str (Str.ofString "comb")), (.tup (ss.map W.int), .tuple (ss.map PyData.int))] (fun p hp => by
      simp only [List.mem_cons, List.not_mem_nil, or_false] at hp
      rcases hp with rfl | rfl
      · exact Dm.str (by decide +kernel)
      · exact Dm.tup fun a _ => Dm.int a)
    exact (this.at9 (by omega)).eq e0 rfl
  | drop c x =>
    have := Dm.tupL (S := S) (n := 1) [(.str (Str.ofString "drop"), .str (Str.ofString "drop")), (.int (c : Nat), .int (c : Nat)), (.str (one x), .str (one x))] (fun p hp => by
      simp only [List.mem_cons, List.not_mem_nil, or_false] at hp
      rcases hp with rfl | rfl | rfl
      · exact Dm.str (by decide +kernel)
      · exact Dm.int _
      · exact Dm.str (one_ok (lets_sgs x ok.2)))
    exact (this.at9 (by omega)).eq e0 rfl
  | paper cs =>
    have := Dm.tupL (S := S) (n := 1) [(.str (Str.ofString "paper"), .str (Str.ofString "paper")), (.tup (nums cs), .tuple (cs.map fun (c : Nat) => PyData.int c))] (fun p hp => by
      simp only [List.mem_cons, List.not_mem_nil, or_false] at hp
      rcases hp with rfl | rfl
      · exact Dm.str (by decide +kernel)
      · exact nums_dm cs)
    exact (this.at9 (by omega)).eq e0 rfl
theorem notin_kinds {S : Sto} (k : Str) (b : Bool) (e : inF (.str k) [.str (Str.ofString "rake"), .str (Str.ofString "comb")] = some b) : pyNotIn (.str k) (.tup [.str (Str.ofString "rake"), .str (Str.ofString "comb")]) S = .ok (.bl (!b)) S := by
  show (match inF (.str k) [.str (Str.ofString "rake"), .str (Str.ofString "comb")] with | some b => Res.ok (W.bl (!b)) S | none => .bad) = _
  rw [e]
theorem is_letter_ok {x : Nat} (hx : x ∈ lets) (S : Sto) : g_is_letter [.str (one x)] S = .ok (.bl true) S := by
  have hz2 := sizeLine_big
  have l1 : (one x).length = 1 := rfl
  have z1 : (1 : Nat) ≤ sizeLine := by omega
  have hin := lets_in x hx
  have e1 : (((1 : Nat)) : Int) = 1 := rfl
  have inn : pyIn (.str (one x)) (.str (Str.ofString "abcdefghijklmnopqrstuvwxyz")) S = .ok (.bl true) S := by
    have := in_1 (S := S) x (Str.ofString "abcdefghijklmnopqrstuvwxyz")
    rw [decide_eq_true hin] at this
    exact this
  obtain ⟨a, S', e, rfl, rfl⟩ := Ho.ex (show Ho (g_is_letter [.str (one x)] S) (fun v S' => v = .bl true ∧ S' = S) noX by
    unfold g_is_letter
    simp only [ho_ok, ho_ret, ho_bd, ho_bdI, ho_bdO, hos_nx, hos_rt, hos_bk, hos_ct, hos_onx, hos_ort, hos_exS, hos_exT, hos_exA, hos_exI, nxt_nx, nxt_rt, nxt_bk, nxt_ct, hos_seq, hos_asg, fin_nx, fin_rt, ho_body1, ho_body2, ho_body3, ho_body4, ho_meth, ho_bm, ho_prop, ho_if, hos_if, ho_and, ho_or, ho_andT, ho_orT, ho_ite, ho_chain, ret_d, ngW_b, blM_b, truM_b, getSl_0, getSl_s, lstM_d, tupM_d, add_ii, add_ss, sub_ii, mul_ii, fdiv_ii, mod_ii, pow_ii, lt_ii, le_ii, gt_ii, ge_ii, eq_ii, ne_ii, eq_ss, ne_ss, intM_i, lenM_t, ixM_t, seqV_s, seqV_t, partM_i, in_1, List.length_cons, List.length_nil, List.length_singleton, List.map_cons, List.map_nil, List.cons_append, List.nil_append, List.set_cons_zero, List.set_cons_succ, List.replicate_succ, List.replicate_zero, List.append_nil, Nat.reduceAdd, Nat.reduceSub, Nat.zero_add, Nat.sub_self, Nat.reduceEqDiff, Nat.reduceLeDiff, if_true, if_false, ite_true, ite_false, reduceIte, decide_true, decide_false, Bool.not_true, Bool.not_false, true_and, and_true, r_is_letter, isiM, tyN, kit_str_str, lenM_s, l1, z1, e1, inn])
  exact e
theorem is_deed_ok (w1 : 1 ≤ w) (h1 : 1 ≤ h) (w5 : w ≤ 5) (h5 : h ≤ 5) (ok : d.Ok w h) (S : Sto) : Ho (g_is_deed [.int w, .int h, deedW d] S) (fun v S' => v = .bl true ∧ S <+: S') noX := by
  have hz2 := sizeLine_big
  have z0 : (0 : Nat) ≤ sizeLine := Nat.zero_le _
  have z2 : (2 : Nat) ≤ sizeLine := by omega
  have l2 : (((2 : Nat)) : Int) = 2 := rfl
  have l3 : (((3 : Nat)) : Int) = 3 := rfl
  have sm := fun y => small_nat (n := w) (by omega) y
  have eM : (w : Int) * (h : Int) = ((w * h : Nat) : Int) := by rw [Int.natCast_mul]
  have kr := notin_kinds (S := S) (Str.ofString "rake") true (by decide +kernel)
  have kc := notin_kinds (S := S) (Str.ofString "comb") true (by decide +kernel)
  have kp := notin_kinds (S := S) (Str.ofString "paper") false (by decide +kernel)
  have k1 : decide (Str.ofString "comb" = Str.ofString "rake") = false := by decide +kernel
  cases d with
  | rake ss =>
    have a0 : atI [W.str (Str.ofString "rake"), .tup (ss.map W.int)] 0 = some (.str (Str.ofString "rake")) := rfl
    have a1 : atI [W.str (Str.ofString "rake"), .tup (ss.map W.int)] 1 = some (.tup (ss.map W.int)) := rfl
    have dr : Ho (g_is_draw [.int w, .int h, deedW (.rake ss)] S) (fun v S' => v = .bl true ∧ S <+: S') noX := by
      unfold g_is_draw deedW
      simp only [ho_ok, ho_ret, ho_bd, ho_bdI, ho_bdO, hos_nx, hos_rt, hos_bk, hos_ct, hos_onx, hos_ort, hos_exS, hos_exT, hos_exA, hos_exI, nxt_nx, nxt_rt, nxt_bk, nxt_ct, hos_seq, hos_asg, fin_nx, fin_rt, ho_body1, ho_body2, ho_body3, ho_body4, ho_meth, ho_bm, ho_prop, ho_if, hos_if, ho_and, ho_or, ho_andT, ho_orT, ho_ite, ho_chain, ret_d, ngW_b, blM_b, truM_b, getSl_0, getSl_s, lstM_d, tupM_d, add_ii, add_ss, sub_ii, mul_ii, fdiv_ii, mod_ii, pow_ii, lt_ii, le_ii, gt_ii, ge_ii, eq_ii, ne_ii, eq_ss, ne_ss, intM_i, lenM_t, ixM_t, seqV_s, seqV_t, partM_i, in_1, List.length_cons, List.length_nil, List.length_singleton, List.map_cons, List.map_nil, List.cons_append, List.nil_append, List.set_cons_zero, List.set_cons_succ, List.replicate_succ, List.replicate_zero, List.append_nil, Nat.reduceAdd, Nat.reduceSub, Nat.zero_add, Nat.sub_self, Nat.reduceEqDiff, Nat.reduceLeDiff, if_true, if_false, ite_true, ite_false, reduceIte, decide_true, decide_false, Bool.not_true, Bool.not_false, true_and, and_true, r_is_draw, isiM, tyN, kit_tup_tup, l2, a0, a1, kr, z2]
      exact are_strides_ok ok.1 h5 ok.2 S
    unfold g_is_deed
    simp only [ho_ok, ho_ret, ho_bd, ho_bdI, ho_bdO, hos_nx, hos_rt, hos_bk, hos_ct, hos_onx, hos_ort, hos_exS, hos_exT, hos_exA, hos_exI, nxt_nx, nxt_rt, nxt_bk, nxt_ct, hos_seq, hos_asg, fin_nx, fin_rt, ho_body1, ho_body2, ho_body3, ho_body4, ho_meth, ho_bm, ho_prop, ho_if, hos_if, ho_and, ho_or, ho_andT, ho_orT, ho_ite, ho_chain, ret_d, ngW_b, blM_b, truM_b, getSl_0, getSl_s, lstM_d, tupM_d, add_ii, add_ss, sub_ii, mul_ii, fdiv_ii, mod_ii, pow_ii, lt_ii, le_ii, gt_ii, ge_ii, eq_ii, ne_ii, eq_ss, ne_ss, intM_i, lenM_t, ixM_t, seqV_s, seqV_t, partM_i, in_1, List.length_cons, List.length_nil, List.length_singleton, List.map_cons, List.map_nil, List.cons_append, List.nil_append, List.set_cons_zero, List.set_cons_succ, List.replicate_succ, List.replicate_zero, List.append_nil, Nat.reduceAdd, Nat.reduceSub, Nat.zero_add, Nat.sub_self, Nat.reduceEqDiff, Nat.reduceLeDiff, if_true, if_false, ite_true, ite_false, reduceIte, decide_true, decide_false, Bool.not_true, Bool.not_false, true_and, and_true, r_is_deed]
    refine Ho.call dr ?_
    rintro v S1 ⟨rfl, p1⟩
    simp only [ho_ok, ho_ret, ho_bd, ho_bdI, ho_bdO, hos_nx, hos_rt, hos_bk, hos_ct, hos_onx, hos_ort, hos_exS, hos_exT, hos_exA, hos_exI, nxt_nx, nxt_rt, nxt_bk, nxt_ct, hos_seq, hos_asg, fin_nx, fin_rt, ho_body1, ho_body2, ho_body3, ho_body4, ho_meth, ho_bm, ho_prop, ho_if, hos_if, ho_and, ho_or, ho_andT, ho_orT, ho_ite, ho_chain, ret_d, ngW_b, blM_b, truM_b, getSl_0, getSl_s, lstM_d, tupM_d, add_ii, add_ss, sub_ii, mul_ii, fdiv_ii, mod_ii, pow_ii, lt_ii, le_ii, gt_ii, ge_ii, eq_ii, ne_ii, eq_ss, ne_ss, intM_i, lenM_t, ixM_t, seqV_s, seqV_t, partM_i, in_1, List.length_cons, List.length_nil, List.length_singleton, List.map_cons, List.map_nil, List.cons_append, List.nil_append, List.set_cons_zero, List.set_cons_succ, List.replicate_succ, List.replicate_zero, List.append_nil, Nat.reduceAdd, Nat.reduceSub, Nat.zero_add, Nat.sub_self, Nat.reduceEqDiff, Nat.reduceLeDiff, if_true, if_false, ite_true, ite_false, reduceIte, decide_true, decide_false, Bool.not_true, Bool.not_false, true_and, and_true]
    exact p1
  | comb ss =>
    have a0 : atI [W.str (Str.ofString "comb"), .tup (ss.map W.int)] 0 = some (.str (Str.ofString "comb")) := rfl
    have a1 : atI [W.str (Str.ofString "comb"), .tup (ss.map W.int)] 1 = some (.tup (ss.map W.int)) := rfl
    have dr : Ho (g_is_draw [.int w, .int h, deedW (.comb ss)] S) (fun v S' => v = .bl true ∧ S <+: S') noX := by
      unfold g_is_draw deedW
      simp only [ho_ok, ho_ret, ho_bd, ho_bdI, ho_bdO, hos_nx, hos_rt, hos_bk, hos_ct, hos_onx, hos_ort, hos_exS, hos_exT, hos_exA, hos_exI, nxt_nx, nxt_rt, nxt_bk, nxt_ct, hos_seq, hos_asg, fin_nx, fin_rt, ho_body1, ho_body2, ho_body3, ho_body4, ho_meth, ho_bm, ho_prop, ho_if, hos_if, ho_and, ho_or, ho_andT, ho_orT, ho_ite, ho_chain, ret_d, ngW_b, blM_b, truM_b, getSl_0, getSl_s, lstM_d, tupM_d, add_ii, add_ss, sub_ii, mul_ii, fdiv_ii, mod_ii, pow_ii, lt_ii, le_ii, gt_ii, ge_ii, eq_ii, ne_ii, eq_ss, ne_ss, intM_i, lenM_t, ixM_t, seqV_s, seqV_t, partM_i, in_1, List.length_cons, List.length_nil, List.length_singleton, List.map_cons, List.map_nil, List.cons_append, List.nil_append, List.set_cons_zero, List.set_cons_succ, List.replicate_succ, List.replicate_zero, List.append_nil, Nat.reduceAdd, Nat.reduceSub, Nat.zero_add, Nat.sub_self, Nat.reduceEqDiff, Nat.reduceLeDiff, if_true, if_false, ite_true, ite_false, reduceIte, decide_true, decide_false, Bool.not_true, Bool.not_false, true_and, and_true, r_is_draw, isiM, tyN, kit_tup_tup, l2, a0, a1, kc, k1, z2]
      exact are_strides_ok ok.1 w5 ok.2 S
    unfold g_is_deed
    simp only [ho_ok, ho_ret, ho_bd, ho_bdI, ho_bdO, hos_nx, hos_rt, hos_bk, hos_ct, hos_onx, hos_ort, hos_exS, hos_exT, hos_exA, hos_exI, nxt_nx, nxt_rt, nxt_bk, nxt_ct, hos_seq, hos_asg, fin_nx, fin_rt, ho_body1, ho_body2, ho_body3, ho_body4, ho_meth, ho_bm, ho_prop, ho_if, hos_if, ho_and, ho_or, ho_andT, ho_orT, ho_ite, ho_chain, ret_d, ngW_b, blM_b, truM_b, getSl_0, getSl_s, lstM_d, tupM_d, add_ii, add_ss, sub_ii, mul_ii, fdiv_ii, mod_ii, pow_ii, lt_ii, le_ii, gt_ii, ge_ii, eq_ii, ne_ii, eq_ss, ne_ss, intM_i, lenM_t, ixM_t, seqV_s, seqV_t, partM_i, in_1, List.length_cons, List.length_nil, List.length_singleton, List.map_cons, List.map_nil, List.cons_append, List.nil_append, List.set_cons_zero, List.set_cons_succ, List.replicate_succ, List.replicate_zero, List.append_nil, Nat.reduceAdd, Nat.reduceSub, Nat.zero_add, Nat.sub_self, Nat.reduceEqDiff, Nat.reduceLeDiff, if_true, if_false, ite_true, ite_false, reduceIte, decide_true, decide_false, Bool.not_true, Bool.not_false, true_and, and_true, r_is_deed]
    refine Ho.call dr ?_
    rintro v S1 ⟨rfl, p1⟩
    simp only [ho_ok, ho_ret, ho_bd, ho_bdI, ho_bdO, hos_nx, hos_rt, hos_bk, hos_ct, hos_onx, hos_ort, hos_exS, hos_exT, hos_exA, hos_exI, nxt_nx, nxt_rt, nxt_bk, nxt_ct, hos_seq, hos_asg, fin_nx, fin_rt, ho_body1, ho_body2, ho_body3, ho_body4, ho_meth, ho_bm, ho_prop, ho_if, hos_if, ho_and, ho_or, ho_andT, ho_orT, ho_ite, ho_chain, ret_d, ngW_b, blM_b, truM_b, getSl_0, getSl_s, lstM_d, tupM_d, add_ii, add_ss, sub_ii, mul_ii, fdiv_ii, mod_ii, pow_ii, lt_ii, le_ii, gt_ii, ge_ii, eq_ii, ne_ii, eq_ss, ne_ss, intM_i, lenM_t, ixM_t, seqV_s, seqV_t, partM_i, in_1, List.length_cons, List.length_nil, List.length_singleton, List.map_cons, List.map_nil, List.cons_append, List.nil_append, List.set_cons_zero, List.set_cons_succ, List.replicate_succ, List.replicate_zero, List.append_nil, Nat.reduceAdd, Nat.reduceSub, Nat.zero_add, Nat.sub_self, Nat.reduceEqDiff, Nat.reduceLeDiff, if_true, if_false, ite_true, ite_false, reduceIte, decide_true, decide_false, Bool.not_true, Bool.not_false, true_and, and_true]
    exact p1
  | drop c x =>
    have a0 : atI [W.str (Str.ofString "drop"), .int (c : Nat), .str (one x)] 0 = some (.str (Str.ofString "drop")) := rfl
    have a1 : atI [W.str (Str.ofString "drop"), .int (c : Nat), .str (one x)] 1 = some (.int (c : Nat)) := rfl
    have a2 : atI [W.str (Str.ofString "drop"), .int (c : Nat), .str (one x)] 2 = some (.str (one x)) := rfl
    have e32 : ¬ ((3 : Int) = 2) := by decide
    have dr : Ho (g_is_draw [.int w, .int h, deedW (.drop c x)] S) (fun v S' => v = .bl false ∧ S' = S) noX := by
      unfold g_is_draw deedW
      simp only [ho_ok, ho_ret, ho_bd, ho_bdI, ho_bdO, hos_nx, hos_rt, hos_bk, hos_ct, hos_onx, hos_ort, hos_exS, hos_exT, hos_exA, hos_exI, nxt_nx, nxt_rt, nxt_bk, nxt_ct, hos_seq, hos_asg, fin_nx, fin_rt, ho_body1, ho_body2, ho_body3, ho_body4, ho_meth, ho_bm, ho_prop, ho_if, hos_if, ho_and, ho_or, ho_andT, ho_orT, ho_ite, ho_chain, ret_d, ngW_b, blM_b, truM_b, getSl_0, getSl_s, lstM_d, tupM_d, add_ii, add_ss, sub_ii, mul_ii, fdiv_ii, mod_ii, pow_ii, lt_ii, le_ii, gt_ii, ge_ii, eq_ii, ne_ii, eq_ss, ne_ss, intM_i, lenM_t, ixM_t, seqV_s, seqV_t, partM_i, in_1, List.length_cons, List.length_nil, List.length_singleton, List.map_cons, List.map_nil, List.cons_append, List.nil_append, List.set_cons_zero, List.set_cons_succ, List.replicate_succ, List.replicate_zero, List.append_nil, Nat.reduceAdd, Nat.reduceSub, Nat.zero_add, Nat.sub_self, Nat.reduceEqDiff, Nat.reduceLeDiff, if_true, if_false, ite_true, ite_false, reduceIte, decide_true, decide_false, Bool.not_true, Bool.not_false, true_and, and_true, r_is_draw, isiM, tyN, kit_tup_tup, l3, e32]
    have ne := deed_ne0 (S := S) ok
    have c0 : (0 : Int) ≤ (c : Int) := by omega
    have c1 : (c : Int) ≤ ((w * h : Nat) : Int) - 1 := by
      have := ok.1
      omega
    unfold g_is_deed
    simp only [ho_ok, ho_ret, ho_bd, ho_bdI, ho_bdO, hos_nx, hos_rt, hos_bk, hos_ct, hos_onx, hos_ort, hos_exS, hos_exT, hos_exA, hos_exI, nxt_nx, nxt_rt, nxt_bk, nxt_ct, hos_seq, hos_asg, fin_nx, fin_rt, ho_body1, ho_body2, ho_body3, ho_body4, ho_meth, ho_bm, ho_prop, ho_if, hos_if, ho_and, ho_or, ho_andT, ho_orT, ho_ite, ho_chain, ret_d, ngW_b, blM_b, truM_b, getSl_0, getSl_s, lstM_d, tupM_d, add_ii, add_ss, sub_ii, mul_ii, fdiv_ii, mod_ii, pow_ii, lt_ii, le_ii, gt_ii, ge_ii, eq_ii, ne_ii, eq_ss, ne_ss, intM_i, lenM_t, ixM_t, seqV_s, seqV_t, partM_i, in_1, List.length_cons, List.length_nil, List.length_singleton, List.map_cons, List.map_nil, List.cons_append, List.nil_append, List.set_cons_zero, List.set_cons_succ, List.replicate_succ, List.replicate_zero, List.append_nil, Nat.reduceAdd, Nat.reduceSub, Nat.zero_add, Nat.sub_self, Nat.reduceEqDiff, Nat.reduceLeDiff, if_true, if_false, ite_true, ite_false, reduceIte, decide_true, decide_false, Bool.not_true, Bool.not_false, true_and, and_true, r_is_deed]
    refine Ho.call dr ?_
    rintro v S1 ⟨rfl, rfl⟩
    unfold deedW at ne ⊢
    simp only [ho_ok, ho_ret, ho_bd, ho_bdI, ho_bdO, hos_nx, hos_rt, hos_bk, hos_ct, hos_onx, hos_ort, hos_exS, hos_exT, hos_exA, hos_exI, nxt_nx, nxt_rt, nxt_bk, nxt_ct, hos_seq, hos_asg, fin_nx, fin_rt, ho_body1, ho_body2, ho_body3, ho_body4, ho_meth, ho_bm, ho_prop, ho_if, hos_if, ho_and, ho_or, ho_andT, ho_orT, ho_ite, ho_chain, ret_d, ngW_b, blM_b, truM_b, getSl_0, getSl_s, lstM_d, tupM_d, add_ii, add_ss, sub_ii, mul_ii, fdiv_ii, mod_ii, pow_ii, lt_ii, le_ii, gt_ii, ge_ii, eq_ii, ne_ii, eq_ss, ne_ss, intM_i, lenM_t, ixM_t, seqV_s, seqV_t, partM_i, in_1, List.length_cons, List.length_nil, List.length_singleton, List.map_cons, List.map_nil, List.cons_append, List.nil_append, List.set_cons_zero, List.set_cons_succ, List.replicate_succ, List.replicate_zero, List.append_nil, Nat.reduceAdd, Nat.reduceSub, Nat.zero_add, Nat.sub_self, Nat.reduceEqDiff, Nat.reduceLeDiff, if_true, if_false, ite_true, ite_false, reduceIte, decide_true, decide_false, Bool.not_true, Bool.not_false, true_and, and_true, isiM, tyN, kit_tup_tup, l3, a0, a1, a2, ne, z0, sm, eM, is_number_int, c0, c1, is_letter_ok ok.2]
    exact List.prefix_rfl
  | paper cs =>
    have a0 : atI [W.str (Str.ofString "paper"), .tup (nums cs)] 0 = some (.str (Str.ofString "paper")) := rfl
    have a1 : atI [W.str (Str.ofString "paper"), .tup (nums cs)] 1 = some (.tup (nums cs)) := rfl
    have k2 : decide (Str.ofString "paper" = Str.ofString "drop") = false := by decide +kernel
    have dr : Ho (g_is_draw [.int w, .int h, deedW (.paper cs)] S) (fun v S' => v = .bl false ∧ S' = S) noX := by
      unfold g_is_draw deedW
      simp only [ho_ok, ho_ret, ho_bd, ho_bdI, ho_bdO, hos_nx, hos_rt, hos_bk, hos_ct, hos_onx, hos_ort, hos_exS, hos_exT, hos_exA, hos_exI, nxt_nx, nxt_rt, nxt_bk, nxt_ct, hos_seq, hos_asg, fin_nx, fin_rt, ho_body1, ho_body2, ho_body3, ho_body4, ho_meth, ho_bm, ho_prop, ho_if, hos_if, ho_and, ho_or, ho_andT, ho_orT, ho_ite, ho_chain, ret_d, ngW_b, blM_b, truM_b, getSl_0, getSl_s, lstM_d, tupM_d, add_ii, add_ss, sub_ii, mul_ii, fdiv_ii, mod_ii, pow_ii, lt_ii, le_ii, gt_ii, ge_ii, eq_ii, ne_ii, eq_ss, ne_ss, intM_i, lenM_t, ixM_t, seqV_s, seqV_t, partM_i, in_1, List.length_cons, List.length_nil, List.length_singleton, List.map_cons, List.map_nil, List.cons_append, List.nil_append, List.set_cons_zero, List.set_cons_succ, List.replicate_succ, List.replicate_zero, List.append_nil, Nat.reduceAdd, Nat.reduceSub, Nat.zero_add, Nat.sub_self, Nat.reduceEqDiff, Nat.reduceLeDiff, if_true, if_false, ite_true, ite_false, reduceIte, decide_true, decide_false, Bool.not_true, Bool.not_false, true_and, and_true, r_is_draw, isiM, tyN, kit_tup_tup, l2, a0, a1, kp, z2]
    have ne := deed_ne0 (S := S) ok
    unfold g_is_deed
    simp only [ho_ok, ho_ret, ho_bd, ho_bdI, ho_bdO, hos_nx, hos_rt, hos_bk, hos_ct, hos_onx, hos_ort, hos_exS, hos_exT, hos_exA, hos_exI, nxt_nx, nxt_rt, nxt_bk, nxt_ct, hos_seq, hos_asg, fin_nx, fin_rt, ho_body1, ho_body2, ho_body3, ho_body4, ho_meth, ho_bm, ho_prop, ho_if, hos_if, ho_and, ho_or, ho_andT, ho_orT, ho_ite, ho_chain, ret_d, ngW_b, blM_b, truM_b, getSl_0, getSl_s, lstM_d, tupM_d, add_ii, add_ss, sub_ii, mul_ii, fdiv_ii, mod_ii, pow_ii, lt_ii, le_ii, gt_ii, ge_ii, eq_ii, ne_ii, eq_ss, ne_ss, intM_i, lenM_t, ixM_t, seqV_s, seqV_t, partM_i, in_1, List.length_cons, List.length_nil, List.length_singleton, List.map_cons, List.map_nil, List.cons_append, List.nil_append, List.set_cons_zero, List.set_cons_succ, List.replicate_succ, List.replicate_zero, List.append_nil, Nat.reduceAdd, Nat.reduceSub, Nat.zero_add, Nat.sub_self, Nat.reduceEqDiff, Nat.reduceLeDiff, if_true, if_false, ite_true, ite_false, reduceIte, decide_true, decide_false, Bool.not_true, Bool.not_false, true_and, and_true, r_is_deed]
    refine Ho.call dr ?_
    rintro v S1 ⟨rfl, rfl⟩
    unfold deedW at ne ⊢
    simp only [ho_ok, ho_ret, ho_bd, ho_bdI, ho_bdO, hos_nx, hos_rt, hos_bk, hos_ct, hos_onx, hos_ort, hos_exS, hos_exT, hos_exA, hos_exI, nxt_nx, nxt_rt, nxt_bk, nxt_ct, hos_seq, hos_asg, fin_nx, fin_rt, ho_body1, ho_body2, ho_body3, ho_body4, ho_meth, ho_bm, ho_prop, ho_if, hos_if, ho_and, ho_or, ho_andT, ho_orT, ho_ite, ho_chain, ret_d, ngW_b, blM_b, truM_b, getSl_0, getSl_s, lstM_d, tupM_d, add_ii, add_ss, sub_ii, mul_ii, fdiv_ii, mod_ii, pow_ii, lt_ii, le_ii, gt_ii, ge_ii, eq_ii, ne_ii, eq_ss, ne_ss, intM_i, lenM_t, ixM_t, seqV_s, seqV_t, partM_i, in_1, List.length_cons, List.length_nil, List.length_singleton, List.map_cons, List.map_nil, List.cons_append, List.nil_append, List.set_cons_zero, List.set_cons_succ, List.replicate_succ, List.replicate_zero, List.append_nil, Nat.reduceAdd, Nat.reduceSub, Nat.zero_add, Nat.sub_self, Nat.reduceEqDiff, Nat.reduceLeDiff, if_true, if_false, ite_true, ite_false, reduceIte, decide_true, decide_false, Bool.not_true, Bool.not_false, true_and, and_true, isiM, tyN, kit_tup_tup, l2, a0, a1, ne, z0, k2, sm, eM]
    exact are_cells_ok ok.1 ok.2.1 ok.2.2.1 ok.2.2.2 S1
theorem check_recipe_ok {ds : List Deed} (w1 : 1 ≤ w) (h1 : 1 ≤ h) (w5 : w ≤ 5) (h5 : h ≤ 5) (hd : ∀ d ∈ ds, d.Ok w h) (hl : ds.length ≤ 12) (S : Sto) : Ho (g_check_recipe [.int w, .int h, .tup (ds.map deedW)] S) (fun v S' => v = .non ∧ S <+: S') noX := by
  unfold g_check_recipe
  simp only [ho_ok, ho_ret, ho_bd, ho_bdI, ho_bdO, hos_nx, hos_rt, hos_bk, hos_ct, hos_onx, hos_ort, hos_exS, hos_exT, hos_exA, hos_exI, nxt_nx, nxt_rt, nxt_bk, nxt_ct, hos_seq, hos_asg, fin_nx, fin_rt, ho_body1, ho_body2, ho_body3, ho_body4, ho_meth, ho_bm, ho_prop, ho_if, hos_if, ho_and, ho_or, ho_andT, ho_orT, ho_ite, ho_chain, ret_d, ngW_b, blM_b, truM_b, getSl_0, getSl_s, lstM_d, tupM_d, add_ii, add_ss, sub_ii, mul_ii, fdiv_ii, mod_ii, pow_ii, lt_ii, le_ii, gt_ii, ge_ii, eq_ii, ne_ii, eq_ss, ne_ss, intM_i, lenM_t, ixM_t, seqV_s, seqV_t, partM_i, in_1, List.length_cons, List.length_nil, List.length_singleton, List.map_cons, List.map_nil, List.cons_append, List.nil_append, List.set_cons_zero, List.set_cons_succ, List.replicate_succ, List.replicate_zero, List.append_nil, Nat.reduceAdd, Nat.reduceSub, Nat.zero_add, Nat.sub_self, Nat.reduceEqDiff, Nat.reduceLeDiff, if_true, if_false, ite_true, ite_false, reduceIte, decide_true, decide_false, Bool.not_true, Bool.not_false, true_and, and_true, r_check_recipe, enumV_t]
  refine hos_for (ws := enumL (ds.map deedW)) (fun n sl' S' => (∃ x3 x4, sl' = [some (.int (w : Nat)), some (.int (h : Nat)), some (.tup (ds.map deedW)), x3, x4]) ∧ S <+: S') ⟨⟨_, _, rfl⟩, List.prefix_rfl⟩ (fun _ _ _ _ => rfl) (fun n u sl' S2 hw1 hp => ?_) fun sl' S2 hp => ?_
  · obtain ⟨⟨x3, x4, rfl⟩, p2⟩ := hp
    rw [enumL_get, List.getElem?_map] at hw1
    cases q : ds[n]? with
    | none => rw [q] at hw1; cases hw1
    | some d =>
      rw [q] at hw1
      cases hw1
      have hn := (List.getElem?_eq_some_iff.mp q).1
      have e0 : ¬ (((n : Nat) : Int) = 12) := by omega
      simp only [ho_ok, ho_ret, ho_bd, ho_bdI, ho_bdO, hos_nx, hos_rt, hos_bk, hos_ct, hos_onx, hos_ort, hos_exS, hos_exT, hos_exA, hos_exI, nxt_nx, nxt_rt, nxt_bk, nxt_ct, hos_seq, hos_asg, fin_nx, fin_rt, ho_body1, ho_body2, ho_body3, ho_body4, ho_meth, ho_bm, ho_prop, ho_if, hos_if, ho_and, ho_or, ho_andT, ho_orT, ho_ite, ho_chain, ret_d, ngW_b, blM_b, truM_b, getSl_0, getSl_s, lstM_d, tupM_d, add_ii, add_ss, sub_ii, mul_ii, fdiv_ii, mod_ii, pow_ii, lt_ii, le_ii, gt_ii, ge_ii, eq_ii, ne_ii, eq_ss, ne_ss, intM_i, lenM_t, ixM_t, seqV_s, seqV_t, partM_i, in_1, List.length_cons, List.length_nil, List.length_singleton, List.map_cons, List.map_nil, List.cons_append, List.nil_append, List.set_cons_zero, List.set_cons_succ, List.replicate_succ, List.replicate_zero, List.append_nil, Nat.reduceAdd, Nat.reduceSub, Nat.zero_add, Nat.sub_self, Nat.reduceEqDiff, Nat.reduceLeDiff, if_true, if_false, ite_true, ite_false, reduceIte, decide_true, decide_false, Bool.not_true, Bool.not_false, true_and, and_true, unpM, thenG, e0]
      refine Ho.call (is_deed_ok w1 h1 w5 h5 (hd d (List.mem_of_getElem? q)) S2) ?_
      rintro v S3 ⟨rfl, p3⟩
      simp only [ho_ok, ho_ret, ho_bd, ho_bdI, ho_bdO, hos_nx, hos_rt, hos_bk, hos_ct, hos_onx, hos_ort, hos_exS, hos_exT, hos_exA, hos_exI, nxt_nx, nxt_rt, nxt_bk, nxt_ct, hos_seq, hos_asg, fin_nx, fin_rt, ho_body1, ho_body2, ho_body3, ho_body4, ho_meth, ho_bm, ho_prop, ho_if, hos_if, ho_and, ho_or, ho_andT, ho_orT, ho_ite, ho_chain, ret_d, ngW_b, blM_b, truM_b, getSl_0, getSl_s, lstM_d, tupM_d, add_ii, add_ss, sub_ii, mul_ii, fdiv_ii, mod_ii, pow_ii, lt_ii, le_ii, gt_ii, ge_ii, eq_ii, ne_ii, eq_ss, ne_ss, intM_i, lenM_t, ixM_t, seqV_s, seqV_t, partM_i, in_1, List.length_cons, List.length_nil, List.length_singleton, List.map_cons, List.map_nil, List.cons_append, List.nil_append, List.set_cons_zero, List.set_cons_succ, List.replicate_succ, List.replicate_zero, List.append_nil, Nat.reduceAdd, Nat.reduceSub, Nat.zero_add, Nat.sub_self, Nat.reduceEqDiff, Nat.reduceLeDiff, if_true, if_false, ite_true, ite_false, reduceIte, decide_true, decide_false, Bool.not_true, Bool.not_false, true_and, and_true, stp_nx]
      exact ⟨⟨_, _, rfl⟩, p2.trans p3⟩
  · obtain ⟨⟨x3, x4, rfl⟩, p2⟩ := hp
    exact ⟨rfl, p2⟩
end
/-! ### signs after deeds -/
def frN : Deed → Nat
  | .drop _ x => x
  | _ => 46
def aftN (w h : Nat) (l : List Nat) (d : Deed) : List Nat := (List.range (w * h)).map fun x => match whence w h d x with
  | none => frN d
  | some y => l.getD y 0
theorem aftN_len (w h : Nat) (l : List Nat) (d : Deed) : (aftN w h l d).length = w * h := by simp [aftN]
theorem aft_sg {w h : Nat} {l : List Nat} {d : Deed} (hw : 0 < w) (hh : 0 < h) (hl : l.length = w * h) (ok : d.Ok w h) : aft w h d (.str (one (frN d))) (sgW l) = sgW (aftN w h l d) := by
  unfold aft aftN
  show _ = List.map _ (List.map _ _)
  rw [List.map_map]
  refine rng_map fun x hx => ?_
  show (match whence w h d x with | none => W.str (one (frN d)) | some y => (sgW l).getD y W.non) = W.str ⟨#[match whence w h d x with | none => frN d | some y => l.getD y 0]⟩
  cases e : whence w h d x with
  | none => rfl
  | some y =>
    have hy := whence_lt hw hh ok hx e
    have : (sgW l).getD y .non = .str ⟨#[l.getD y 0]⟩ := by
      rw [List.getD_eq_getElem?_getD, sgW_get (by omega)]
      rfl
    exact this
theorem frN_in {w h : Nat} {d : Deed} (ok : d.Ok w h) : frN d ∈ sgs := by
  cases d with
  | drop c x => exact lets_sgs x ok.2
  | rake ss => exact (by decide : (46 : Nat) ∈ sgs)
  | comb ss => exact (by decide : (46 : Nat) ∈ sgs)
  | paper cs => exact (by decide : (46 : Nat) ∈ sgs)
theorem Fits.aft {w h : Nat} {l : List Nat} {d : Deed} (f : Fits (w : Int) (h : Int) l) (ok : d.Ok w h) : Fits (w : Int) (h : Int) (aftN w h l d) := by
  have w1 := f.w1
  have h1 := f.h1
  have hl := f.natLen
  refine ⟨f.w1, f.w5, f.h1, f.h5, f.wh, by rw [aftN_len, Int.natCast_mul], fun c hc => ?_⟩
  obtain ⟨x, hx, rfl⟩ := List.mem_map.mp hc
  cases e : whence w h d x with
  | none => exact frN_in ok
  | some y =>
    have hy := whence_lt (by omega) (by omega) ok (List.mem_range.mp hx) e
    exact f.sg _ (List.mem_of_getElem? (getD_at (by omega)))
def runN (w h : Nat) (l : List Nat) (ds : List Deed) : List Nat := ds.foldl (aftN w h) l
theorem Fits.run {w h : Nat} : ∀ {ds : List Deed} {l : List Nat}, Fits (w : Int) (h : Int) l → (∀ d ∈ ds, d.Ok w h) → Fits (w : Int) (h : Int) (runN w h l ds)
  | [], _, f, _ => f
  | d :: ds, _, f, hd => Fits.run (ds := ds) (f.aft (hd d (by simp))) fun d' h' => hd d' (by simp [h'])
theorem run_snoc {w h : Nat} {l : List Nat} {ds : List Deed} {d : Deed} : runN w h l (ds ++ [d]) = aftN w h (runN w h l ds) d := by
  unfold runN
  rw [List.foldl_append]
  rfl
def strsW (ls : List (List Nat)) : List W := ls.map fun a => W.str (txt a)
def stepsL (w h : Nat) (l : List Nat) (ds : List Deed) (n : Nat) : List (List Nat) := (List.range (n + 1)).map fun k => runN w h l (ds.take k)
section
variable {S : Sto} {w h : Nat} {l : List Nat}
theorem all_steps_ok {ds : List Deed} (f : Fits (w : Int) (h : Int) l) (hd : ∀ d ∈ ds, d.Ok w h) (hdl : ds.length ≤ 12) (S : Sto) : Ho (g_all_steps [.int w, .int h, .str (txt l), .tup (ds.map deedW)] S) (fun v S' => ∃ j, v = .ref j ∧ S <+: S' ∧ S'[j]? = some (.lst (strsW (stepsL w h l ds ds.length)))) noX := by
  have hz2 := sizeLine_big
  have z1 : (1 : Nat) ≤ sizeLine := by omega
  have w1 := f.w1
  have w5 := f.w5
  have h1 := f.h1
  have h5 := f.h5
  have hw : 0 < w := by omega
  have hh : 0 < h := by omega
  have hl := f.natLen
  have hl12 : l.length ≤ 12 := by
    have := f.wh
    have := f.len
    omega
  have e46 : Str.ofString "." = one 46 := by decide +kernel
  unfold g_all_steps
  simp only [ho_ok, ho_ret, ho_bd, ho_bdI, ho_bdO, hos_nx, hos_rt, hos_bk, hos_ct, hos_onx, hos_ort, hos_exS, hos_exT, hos_exA, hos_exI, nxt_nx, nxt_rt, nxt_bk, nxt_ct, hos_seq, hos_asg, fin_nx, fin_rt, ho_body1, ho_body2, ho_body3, ho_body4, ho_meth, ho_bm, ho_prop, ho_if, hos_if, ho_and, ho_or, ho_andT, ho_orT, ho_ite, ho_chain, ret_d, ngW_b, blM_b, truM_b, getSl_0, getSl_s, lstM_d, tupM_d, add_ii, add_ss, sub_ii, mul_ii, fdiv_ii, mod_ii, pow_ii, lt_ii, le_ii, gt_ii, ge_ii, eq_ii, ne_ii, eq_ss, ne_ss, intM_i, lenM_t, ixM_t, seqV_s, seqV_t, partM_i, in_1, List.length_cons, List.length_nil, List.length_singleton, List.map_cons, List.map_nil, List.cons_append, List.nil_append, List.set_cons_zero, List.set_cons_succ, List.replicate_succ, List.replicate_zero, List.append_nil, Nat.reduceAdd, Nat.reduceSub, Nat.zero_add, Nat.sub_self, Nat.reduceEqDiff, Nat.reduceLeDiff, if_true, if_false, ite_true, ite_false, reduceIte, decide_true, decide_false, Bool.not_true, Bool.not_false, true_and, and_true, r_all_steps]
  refine Ho.call (tray_make hl12 w h S) ?_
  rintro v S1 ⟨rfl, p1, th, pp, hth, hT, gth, n2, n3, gpp, o1, o2⟩
  have hlt : S.length < S1.length := (List.getElem?_eq_some_iff.mp hT).1
  simp only [ho_ok, ho_ret, ho_bd, ho_bdI, ho_bdO, hos_nx, hos_rt, hos_bk, hos_ct, hos_onx, hos_ort, hos_exS, hos_exT, hos_exA, hos_exI, nxt_nx, nxt_rt, nxt_bk, nxt_ct, hos_seq, hos_asg, fin_nx, fin_rt, ho_body1, ho_body2, ho_body3, ho_body4, ho_meth, ho_bm, ho_prop, ho_if, hos_if, ho_and, ho_or, ho_andT, ho_orT, ho_ite, ho_chain, ret_d, ngW_b, blM_b, truM_b, getSl_0, getSl_s, lstM_d, tupM_d, add_ii, add_ss, sub_ii, mul_ii, fdiv_ii, mod_ii, pow_ii, lt_ii, le_ii, gt_ii, ge_ii, eq_ii, ne_ii, eq_ss, ne_ss, intM_i, lenM_t, ixM_t, seqV_s, seqV_t, partM_i, in_1, List.length_cons, List.length_nil, List.length_singleton, List.map_cons, List.map_nil, List.cons_append, List.nil_append, List.set_cons_zero, List.set_cons_succ, List.replicate_succ, List.replicate_zero, List.append_nil, Nat.reduceAdd, Nat.reduceSub, Nat.zero_add, Nat.sub_self, Nat.reduceEqDiff, Nat.reduceLeDiff, if_true, if_false, ite_true, ite_false, reduceIte, decide_true, decide_false, Bool.not_true, Bool.not_false, true_and, and_true, z1]
  refine hos_for (ws := ds.map deedW) (fun n sl' S' => (∃ x6, sl' = [some (.int (w : Nat)), some (.int (h : Nat)), some (.str (txt l)), some (.tup (ds.map deedW)), some (.ref S.length), some (.ref S1.length), x6]) ∧ S <+: S' ∧ S1.length < S'.length ∧ (∃ th pp ps, th ≠ S.length ∧ pp ≠ S.length ∧ pp ≠ th ∧ S.length ≤ pp ∧ pp ≠ S1.length ∧ th ≠ S1.length ∧ IsTray S' S.length w h th pp ∧ S'[th]? = some (.lst (sgW (runN w h l (ds.take n)))) ∧ S'[pp]? = some (.lst ps) ∧ ps.length ≤ n) ∧ S'[S1.length]? = some (.lst (strsW (stepsL w h l ds n)))) ⟨⟨_, rfl⟩, p1.trans (List.prefix_append _ _), by simp, ⟨th, pp, [], hth, n2, n3, o2, ?_, ?_, get_app hT, get_app gth, get_app gpp, by simp⟩, get_last⟩ (fun _ _ _ _ => rfl) (fun n u sl' S2 hw1 hp => ?_) fun sl' S2 hp => ?_
  · have := (List.getElem?_eq_some_iff.mp gpp).1
    omega
  · have := (List.getElem?_eq_some_iff.mp gth).1
    omega
  · obtain ⟨⟨x6, rfl⟩, p2, hlt2, ⟨th, pp, ps, m1, m2, m3, m4, m5, m6, hT, gth, gpp, hps⟩, gf⟩ := hp
    obtain ⟨d, hdn, rfl⟩ := map_at hw1
    have hn := (List.getElem?_eq_some_iff.mp hdn).1
    have ok := hd d (List.mem_of_getElem? hdn)
    have fr := Fits.run (ds := ds.take n) f fun d' h' => hd d' (List.mem_of_mem_take h')
    have tk : ds.take (n + 1) = ds.take n ++ [d] := by rw [List.take_add_one, hdn]; rfl
    have kd := kind_drop d
    have a2 : isDrop d = true → ixM (deedW d) (.int 2) S2 = .ok (.str (one (frN d))) S2 := fun z => by
      cases d with
      | drop c x => rfl
      | _ => cases z
    have f2 : isDrop d = false → frN d = 46 := fun z => by
      cases d with
      | drop c x => cases z
      | _ => rfl
    have frl := fr.natLen
    have dk := do_ok (fr := .str (one (frN d))) hw hh (by omega) (by omega) (show (sgW (runN w h l (ds.take n))).length = w * h by simp [sgW, frl]) (by omega) (by omega) ok hT gth gpp m1 m2 m3
    cases hdr : isDrop d
    all_goals
      rw [hdr] at kd
      first
        | (have a2' := a2 hdr; simp only [ho_ok, ho_ret, ho_bd, ho_bdI, ho_bdO, hos_nx, hos_rt, hos_bk, hos_ct, hos_onx, hos_ort, hos_exS, hos_exT, hos_exA, hos_exI, nxt_nx, nxt_rt, nxt_bk, nxt_ct, hos_seq, hos_asg, fin_nx, fin_rt, ho_body1, ho_body2, ho_body3, ho_body4, ho_meth, ho_bm, ho_prop, ho_if, hos_if, ho_and, ho_or, ho_andT, ho_orT, ho_ite, ho_chain, ret_d, ngW_b, blM_b, truM_b, getSl_0, getSl_s, lstM_d, tupM_d, add_ii, add_ss, sub_ii, mul_ii, fdiv_ii, mod_ii, pow_ii, lt_ii, le_ii, gt_ii, ge_ii, eq_ii, ne_ii, eq_ss, ne_ss, intM_i, lenM_t, ixM_t, seqV_s, seqV_t, partM_i, in_1, List.length_cons, List.length_nil, List.length_singleton, List.map_cons, List.map_nil, List.cons_append, List.nil_append, List.set_cons_zero, List.set_cons_succ, List.replicate_succ, List.replicate_zero, List.append_nil, Nat.reduceAdd, Nat.reduceSub, Nat.zero_add, Nat.sub_self, Nat.reduceEqDiff, Nat.reduceLeDiff, if_true, if_false, ite_true, ite_false, reduceIte, decide_true, decide_false, Bool.not_true, Bool.not_false, true_and, and_true, cls_i hT, deed0, kd, a2'])
        | (simp only [ho_ok, ho_ret, ho_bd, ho_bdI, ho_bdO, hos_nx, hos_rt, hos_bk, hos_ct, hos_onx, hos_ort, hos_exS, hos_exT, hos_exA, hos_exI, nxt_nx, nxt_rt, nxt_bk, nxt_ct, hos_seq, hos_asg, fin_nx, fin_rt, ho_body1, ho_body2, ho_body3, ho_body4, ho_meth, ho_bm, ho_prop, ho_if, hos_if, ho_and, ho_or, ho_andT, ho_orT, ho_ite, ho_chain, ret_d, ngW_b, blM_b, truM_b, getSl_0, getSl_s, lstM_d, tupM_d, add_ii, add_ss, sub_ii, mul_ii, fdiv_ii, mod_ii, pow_ii, lt_ii, le_ii, gt_ii, ge_ii, eq_ii, ne_ii, eq_ss, ne_ss, intM_i, lenM_t, ixM_t, seqV_s, seqV_t, partM_i, in_1, List.length_cons, List.length_nil, List.length_singleton, List.map_cons, List.map_nil, List.cons_append, List.nil_append, List.set_cons_zero, List.set_cons_succ, List.replicate_succ, List.replicate_zero, List.append_nil, Nat.reduceAdd, Nat.reduceSub, Nat.zero_add, Nat.sub_self, Nat.reduceEqDiff, Nat.reduceLeDiff, if_true, if_false, ite_true, ite_false, reduceIte, decide_true, decide_false, Bool.not_true, Bool.not_false, true_and, and_true, cls_i hT, deed0, kd, e46]; rw [← f2 hdr])
      refine Ho.call dk ?_
      rintro v S3 ⟨rfl, D⟩
      obtain ⟨dl, dkp, ⟨th', t1, t2, t3, hT3, gth3⟩, dp⟩ := D
      have gf3 := dkp _ _ (by omega) (Ne.symm m5) gf
      have fl1 := fld_i (j := 1) hT3 rfl
      rw [aft_sg hw hh frl ok, ← run_snoc, ← tk] at gth3
      have fr3 := Fits.run (ds := ds.take (n + 1)) f fun d' h' => hd d' (List.mem_of_mem_take h')
      have jn := join_sg gth3 (by rw [fr3.natLen]; omega)
      have hln : (strsW (stepsL w h l ds n)).length < sizeLine := by
        simp [strsW, stepsL]
        omega
      simp only [ho_ok, ho_ret, ho_bd, ho_bdI, ho_bdO, hos_nx, hos_rt, hos_bk, hos_ct, hos_onx, hos_ort, hos_exS, hos_exT, hos_exA, hos_exI, nxt_nx, nxt_rt, nxt_bk, nxt_ct, hos_seq, hos_asg, fin_nx, fin_rt, ho_body1, ho_body2, ho_body3, ho_body4, ho_meth, ho_bm, ho_prop, ho_if, hos_if, ho_and, ho_or, ho_andT, ho_orT, ho_ite, ho_chain, ret_d, ngW_b, blM_b, truM_b, getSl_0, getSl_s, lstM_d, tupM_d, add_ii, add_ss, sub_ii, mul_ii, fdiv_ii, mod_ii, pow_ii, lt_ii, le_ii, gt_ii, ge_ii, eq_ii, ne_ii, eq_ss, ne_ss, intM_i, lenM_t, ixM_t, seqV_s, seqV_t, partM_i, in_1, List.length_cons, List.length_nil, List.length_singleton, List.map_cons, List.map_nil, List.cons_append, List.nil_append, List.set_cons_zero, List.set_cons_succ, List.replicate_succ, List.replicate_zero, List.append_nil, Nat.reduceAdd, Nat.reduceSub, Nat.zero_add, Nat.sub_self, Nat.reduceEqDiff, Nat.reduceLeDiff, if_true, if_false, ite_true, ite_false, reduceIte, decide_true, decide_false, Bool.not_true, Bool.not_false, true_and, and_true, tyN_str, fl1, jn, tyN_lst gf3, app_l gf3 hln, stp_nx]
      have p3 : S <+: S3 := by
        rw [List.prefix_iff_getElem?]
        intro j hj
        exact dkp j _ (by omega) (by omega) (Ext.get p2 (List.getElem?_eq_getElem hj))
      have hpp3 : ∃ ps', S3[pp]? = some (.lst ps') ∧ ps'.length ≤ n + 1 := by
        cases hpd : isPaper d with
        | false => exact ⟨ps, dp.1 hpd, by omega⟩
        | true =>
          cases d with
          | paper cs =>
            obtain ⟨a, _, _, _, g, _⟩ := dp.2 cs rfl
            exact ⟨_, g, by simp; omega⟩
          | _ => cases hpd
      obtain ⟨ps', gpp3, hps3⟩ := hpp3
      refine ⟨⟨_, rfl⟩, pre_put2 p3 (by omega), by simp; omega, ⟨th', pp, ps', t1, m2, t2, m4, m5, by omega, set_get2 hT3 (by omega), set_get2 gth3 (by omega), set_get2 gpp3 m5, hps3⟩, ?_⟩
      rw [set_get gf3]
      unfold strsW stepsL
      rw [List.range_succ (n := n + 1), List.map_append, List.map_append]
      rfl
  · obtain ⟨⟨x6, rfl⟩, p2, hlt2, _, gf⟩ := hp
    rw [List.length_map] at gf
    simp only [ho_ok, ho_ret, ho_bd, ho_bdI, ho_bdO, hos_nx, hos_rt, hos_bk, hos_ct, hos_onx, hos_ort, hos_exS, hos_exT, hos_exA, hos_exI, nxt_nx, nxt_rt, nxt_bk, nxt_ct, hos_seq, hos_asg, fin_nx, fin_rt, ho_body1, ho_body2, ho_body3, ho_body4, ho_meth, ho_bm, ho_prop, ho_if, hos_if, ho_and, ho_or, ho_andT, ho_orT, ho_ite, ho_chain, ret_d, ngW_b, blM_b, truM_b, getSl_0, getSl_s, lstM_d, tupM_d, add_ii, add_ss, sub_ii, mul_ii, fdiv_ii, mod_ii, pow_ii, lt_ii, le_ii, gt_ii, ge_ii, eq_ii, ne_ii, eq_ss, ne_ss, intM_i, lenM_t, ixM_t, seqV_s, seqV_t, partM_i, in_1, List.length_cons, List.length_nil, List.length_singleton, List.map_cons, List.map_nil, List.cons_append, List.nil_append, List.set_cons_zero, List.set_cons_succ, List.replicate_succ, List.replicate_zero, List.append_nil, Nat.reduceAdd, Nat.reduceSub, Nat.zero_add, Nat.sub_self, Nat.reduceEqDiff, Nat.reduceLeDiff, if_true, if_false, ite_true, ite_false, reduceIte, decide_true, decide_false, Bool.not_true, Bool.not_false, true_and, and_true]
    exact ⟨_, rfl, p2, gf⟩
end
end Lw


namespace Lw
open PySem L2 RP
theorem txt_dec (a b : List Nat) : decide (txt a = txt b) = decide (a = b) := by
  by_cases h : a = b
  · rw [h]; simp
  · rw [decide_eq_false h, decide_eq_false]
    intro e
    have := congrArg (fun s => s.cps.toList) e
    simp only [txt_list] at this
    exact h this
theorem empty_txt : Str.ofString "" = txt [] := by decide +kernel
theorem check_some_ok {t : List Nat} (h0 : t ≠ []) (hs : ∀ c ∈ t, c ∈ sgs) (hl : t.length ≤ 100) (S : Sto) : Ho (g_check_some [.str (txt t)] S) (fun v S' => v = .non ∧ S <+: S') noX := by
  have hz2 := sizeLine_big
  have hz3 : (Str.ofString "abcdefghijklmnopqrstuvwxyz").length + (Str.ofString ".").length ≤ sizeLine := by decide +kernel
  have ne : decide (txt t = Str.ofString "") = false := by
    rw [empty_txt, txt_dec]
    exact decide_eq_false h0
  have lc : lcV (fun _ => some ((txt t).cps.toList.map fun n => W.str ⟨#[n]⟩)) (Tgt.one 1).g (fun x => RP.ret true) (fun sl => bd (getSl 1 sl) fun x => bd (bd (RP.ret (W.str (Str.ofString "abcdefghijklmnopqrstuvwxyz"))) fun x => bd (RP.ret (W.str (Str.ofString "."))) fun y => pyAdd x y) fun y => pyIn x y) (wipeS [some (.str (txt t)), none] [1]) S
      = .ok (.ref S.length) (S ++ [.lst (((txt t).cps.toList.map fun n => W.str ⟨#[n]⟩).map fun _ => .bl true)]) := by
    refine lcV_map (fun _ => .bl true) rfl ?_ fun u hu => ?_
    · rw [List.length_map, txt_list]; omega
    · obtain ⟨c, hc, rfl⟩ := List.mem_map.mp hu
      rw [txt_list] at hc
      have hin := sgs_in c (hs c hc)
      refine ⟨_, rfl, ?_⟩
      simp only [bd_d, wipeS, List.set_cons_succ, List.set_cons_zero, getSl_s, getSl_0, ret_d, add_ss, hz3, if_true, in_1, hin, decide_true]
  have hb : bools (((txt t).cps.toList.map fun n => W.str ⟨#[n]⟩).map fun _ => W.bl true) = some ((t.map fun n => W.str ⟨#[n]⟩).map fun _ => true) := bools_map (fun _ => true) _
  have hs : seqOf (S ++ [.lst (((txt t).cps.toList.map fun n => W.str ⟨#[n]⟩).map fun _ => .bl true)]) S.length = some _ := seq_lst get_last
  have al : ((t.map fun n => W.str ⟨#[n]⟩).map fun _ => true).all id = true := by simp
  unfold g_check_some
  simp only [ho_ok, ho_ret, ho_bd, ho_bdI, ho_bdO, hos_nx, hos_rt, hos_bk, hos_ct, hos_onx, hos_ort, hos_exS, hos_exT, hos_exA, hos_exI, nxt_nx, nxt_rt, nxt_bk, nxt_ct, hos_seq, hos_asg, fin_nx, fin_rt, ho_body1, ho_body2, ho_body3, ho_body4, ho_meth, ho_bm, ho_prop, ho_if, hos_if, ho_and, ho_or, ho_andT, ho_orT, ho_ite, ho_chain, ret_d, ngW_b, blM_b, truM_b, getSl_0, getSl_s, lstM_d, tupM_d, add_ii, add_ss, sub_ii, mul_ii, fdiv_ii, mod_ii, pow_ii, lt_ii, le_ii, gt_ii, ge_ii, eq_ii, ne_ii, eq_ss, ne_ss, intM_i, lenM_t, ixM_t, seqV_s, seqV_t, partM_i, in_1, List.length_cons, List.length_nil, List.length_singleton, List.map_cons, List.map_nil, List.cons_append, List.nil_append, List.set_cons_zero, List.set_cons_succ, List.replicate_succ, List.replicate_zero, List.append_nil, Nat.reduceAdd, Nat.reduceSub, Nat.zero_add, Nat.sub_self, Nat.reduceEqDiff, Nat.reduceLeDiff, if_true, if_false, ite_true, ite_false, reduceIte, decide_true, decide_false, Bool.not_true, Bool.not_false, true_and, and_true, r_check_some, ne, lc, allM_r hs hb, al]
  exact ⟨_, rfl⟩
section
variable {S : Sto} {i : Nat} {w h : Int} {l t : List Nat}
theorem rngB : ∀ n < 20, (-1 : Int) ≠ 0 ∧ (-1 : Int).natAbs < 1073741824 ∧ Builtin.Range.small ((n : Nat) : Int) 0 (-1) = true ∧ 0 ≤ Builtin.Range.rangeSize ((n : Nat) : Int) 0 (-1) := by decide +kernel
theorem rngB2 : ∀ n < 20, (Builtin.Range.rangeSize ((n : Nat) : Int) 0 (-1)).toNat = n := by decide +kernel
def cnts (l t : List Nat) (n j : Nat) : List W := (List.range (t.length + 1)).map fun p => W.int ((if t.length < p + j then waysN l t (n + 1) p else waysN l t n p : Nat) : Int)
theorem cnts_len (n j : Nat) : (cnts l t n j).length = t.length + 1 := by simp [cnts]
theorem cnts_at {n j p : Nat} (hp : p ≤ t.length) : (cnts l t n j)[p]? = some (W.int ((if t.length < p + j then waysN l t (n + 1) p else waysN l t n p : Nat) : Int)) := by
  unfold cnts
  rw [List.getElem?_map, List.getElem?_range (by omega)]
  rfl
theorem cnts_end {n : Nat} : cnts l t n t.length = cnts l t (n + 1) 0 := by
  unfold cnts
  apply List.map_congr_left
  intro p hp
  have hp := List.mem_range.mp hp
  rw [if_neg (show ¬ t.length < p + 0 by omega)]
  by_cases h : t.length < p + t.length
  · rw [if_pos h]
  · have : p = 0 := by omega
    subst this
    rw [if_neg h, waysN_s0]
theorem paper_count_ok (f : Fits w h l) (b : IsBath S i w h (txt l)) (h0 : t ≠ []) (hs : ∀ c ∈ t, c ∈ sgs) (hl : t.length ≤ 13) :
    Ho (g_paper_count [.ref i, .str (txt t)] S) (fun v S' => v = .int ((spelled l t).length : Nat) ∧ S <+: S') noX := by
  have hz2 := sizeLine_big
  have z1 : (1 : Nat) ≤ sizeLine := by omega
  have l12 := f.l12
  have tl : t.length ≤ sizeLine := by omega
  unfold g_paper_count
  simp only [ho_ok, ho_ret, ho_bd, ho_bdI, ho_bdO, hos_nx, hos_rt, hos_bk, hos_ct, hos_onx, hos_ort, hos_exS, hos_exT, hos_exA, hos_exI, nxt_nx, nxt_rt, nxt_bk, nxt_ct, hos_seq, hos_asg, fin_nx, fin_rt, ho_body1, ho_body2, ho_body3, ho_body4, ho_meth, ho_bm, ho_prop, ho_if, hos_if, ho_and, ho_or, ho_andT, ho_orT, ho_ite, ho_chain, ret_d, ngW_b, blM_b, truM_b, getSl_0, getSl_s, lstM_d, tupM_d, add_ii, add_ss, sub_ii, mul_ii, fdiv_ii, mod_ii, pow_ii, lt_ii, le_ii, gt_ii, ge_ii, eq_ii, ne_ii, eq_ss, ne_ss, intM_i, lenM_t, ixM_t, seqV_s, seqV_t, partM_i, in_1, List.length_cons, List.length_nil, List.length_singleton, List.map_cons, List.map_nil, List.cons_append, List.nil_append, List.set_cons_zero, List.set_cons_succ, List.replicate_succ, List.replicate_zero, List.append_nil, Nat.reduceAdd, Nat.reduceSub, Nat.zero_add, Nat.sub_self, Nat.reduceEqDiff, Nat.reduceLeDiff, if_true, if_false, ite_true, ite_false, reduceIte, decide_true, decide_false, Bool.not_true, Bool.not_false, true_and, and_true, r_paper_count]
  refine Ho.call (check_some_ok h0 hs (by omega) S) ?_
  rintro v S1 ⟨rfl, p1⟩
  have g1 : (S1 ++ [Ob.lst [W.int 1]] ++ [Ob.lst [W.int 0]])[(S1 ++ [Ob.lst [W.int 1]]).length]? = some (.lst [W.int 0]) := get_last
  have fm : (List.replicate t.length [W.int 0]).flatten = List.replicate t.length (W.int 0) := by
    induction t.length with
    | zero => rfl
    | succ n ih => rw [List.replicate_succ, List.flatten_cons, ih, List.replicate_succ]; rfl
  have mu : pyMul (.ref (S1 ++ [Ob.lst [W.int 1]]).length) (.int t.length) (S1 ++ [Ob.lst [W.int 1]] ++ [Ob.lst [W.int 0]]) = .ok (.ref (S1 ++ [Ob.lst [W.int 1]] ++ [Ob.lst [W.int 0]]).length) (S1 ++ [Ob.lst [W.int 1]] ++ [Ob.lst [W.int 0]] ++ [Ob.lst (List.replicate t.length (W.int 0))]) := by
    have c : -(2 ^ 63) ≤ (t.length : Int) ∧ (t.length : Int) < 2 ^ 63 ∧ [W.int 0].length * (t.length : Int).toNat ≤ sizeLine := ⟨by omega, by omega, by simp; omega⟩
    simp only [pyMul, g1]
    rw [if_pos c, Int.toNat_natCast, fm]
  have ad := add_rr (S := S1 ++ [Ob.lst [W.int 1]] ++ [Ob.lst [W.int 0]] ++ [Ob.lst (List.replicate t.length (W.int 0))]) (i := S1.length) (j := (S1 ++ [Ob.lst [W.int 1]] ++ [Ob.lst [W.int 0]]).length) (xs := [W.int 1]) (ys := List.replicate t.length (W.int 0)) (get_app (get_app get_last)) get_last (by simp; omega)
  have p2 : S <+: (S1 ++ [Ob.lst [W.int 1]] ++ [Ob.lst [W.int 0]] ++ [Ob.lst (List.replicate t.length (W.int 0))] ++ [Ob.lst ([W.int 1] ++ List.replicate t.length (W.int 0))]) := p1.trans ((((List.prefix_append _ _).trans (List.prefix_append _ _)).trans (List.prefix_append _ _)).trans (List.prefix_append _ _))
  have g2 : (S1 ++ [Ob.lst [W.int 1]] ++ [Ob.lst [W.int 0]] ++ [Ob.lst (List.replicate t.length (W.int 0))] ++ [Ob.lst ([W.int 1] ++ List.replicate t.length (W.int 0))])[(S1 ++ [Ob.lst [W.int 1]] ++ [Ob.lst [W.int 0]] ++ [Ob.lst (List.replicate t.length (W.int 0))]).length]? = some (.lst ([W.int 1] ++ List.replicate t.length (W.int 0))) := get_last
  have e0 : [W.int 1] ++ List.replicate t.length (W.int 0) = cnts l t 0 0 := by
    apply List.ext_getElem?
    intro p
    by_cases hp : p ≤ t.length
    · rw [cnts_at hp, if_neg (by omega), waysN_0 hp]
      cases p with
      | zero => rfl
      | succ p =>
        rw [if_neg (by omega)]
        show (List.replicate t.length (W.int 0))[p]? = _
        rw [List.getElem?_replicate, if_pos (by omega)]
        rfl
    · rw [List.getElem?_eq_none (by simp; omega), List.getElem?_eq_none (by rw [cnts_len]; omega)]
  have hge : S.length ≤ (S1 ++ [Ob.lst [W.int 1]] ++ [Ob.lst [W.int 0]] ++ [Ob.lst (List.replicate t.length (W.int 0))]).length := by
    have := p1.length_le
    simp
    omega
  simp only [ho_ok, ho_ret, ho_bd, ho_bdI, ho_bdO, hos_nx, hos_rt, hos_bk, hos_ct, hos_onx, hos_ort, hos_exS, hos_exT, hos_exA, hos_exI, nxt_nx, nxt_rt, nxt_bk, nxt_ct, hos_seq, hos_asg, fin_nx, fin_rt, ho_body1, ho_body2, ho_body3, ho_body4, ho_meth, ho_bm, ho_prop, ho_if, hos_if, ho_and, ho_or, ho_andT, ho_orT, ho_ite, ho_chain, ret_d, ngW_b, blM_b, truM_b, getSl_0, getSl_s, lstM_d, tupM_d, add_ii, add_ss, sub_ii, mul_ii, fdiv_ii, mod_ii, pow_ii, lt_ii, le_ii, gt_ii, ge_ii, eq_ii, ne_ii, eq_ss, ne_ss, intM_i, lenM_t, ixM_t, seqV_s, seqV_t, partM_i, in_1, List.length_cons, List.length_nil, List.length_singleton, List.map_cons, List.map_nil, List.cons_append, List.nil_append, List.set_cons_zero, List.set_cons_succ, List.replicate_succ, List.replicate_zero, List.append_nil, Nat.reduceAdd, Nat.reduceSub, Nat.zero_add, Nat.sub_self, Nat.reduceEqDiff, Nat.reduceLeDiff, if_true, if_false, ite_true, ite_false, reduceIte, decide_true, decide_false, Bool.not_true, Bool.not_false, true_and, and_true, z1, lenM_s, txt_len, tl, mu, ad]
  simp only [List.cons_append, List.nil_append] at e0 g2 p2
  rw [e0] at g2 p2 ⊢
  generalize (S1 ++ [Ob.lst [W.int 1]] ++ [Ob.lst [W.int 0]] ++ [Ob.lst (List.replicate t.length (W.int 0))]).length = kc at g2 hge ⊢
  generalize S1 ++ [Ob.lst [W.int 1]] ++ [Ob.lst [W.int 0]] ++ [Ob.lst (List.replicate t.length (W.int 0))] ++ [Ob.lst (cnts l t 0 0)] = S2 at g2 p2 ⊢
  have b2 := b.up p2
  simp only [ho_ok, ho_ret, ho_bd, ho_bdI, ho_bdO, hos_nx, hos_rt, hos_bk, hos_ct, hos_onx, hos_ort, hos_exS, hos_exT, hos_exA, hos_exI, nxt_nx, nxt_rt, nxt_bk, nxt_ct, hos_seq, hos_asg, fin_nx, fin_rt, ho_body1, ho_body2, ho_body3, ho_body4, ho_meth, ho_bm, ho_prop, ho_if, hos_if, ho_and, ho_or, ho_andT, ho_orT, ho_ite, ho_chain, ret_d, ngW_b, blM_b, truM_b, getSl_0, getSl_s, lstM_d, tupM_d, add_ii, add_ss, sub_ii, mul_ii, fdiv_ii, mod_ii, pow_ii, lt_ii, le_ii, gt_ii, ge_ii, eq_ii, ne_ii, eq_ss, ne_ss, intM_i, lenM_t, ixM_t, seqV_s, seqV_t, partM_i, in_1, List.length_cons, List.length_nil, List.length_singleton, List.map_cons, List.map_nil, List.cons_append, List.nil_append, List.set_cons_zero, List.set_cons_succ, List.replicate_succ, List.replicate_zero, List.append_nil, Nat.reduceAdd, Nat.reduceSub, Nat.zero_add, Nat.sub_self, Nat.reduceEqDiff, Nat.reduceLeDiff, if_true, if_false, ite_true, ite_false, reduceIte, decide_true, decide_false, Bool.not_true, Bool.not_false, true_and, and_true, b2.cls, cells_ok b2, txt_list]
  refine hos_for (ws := l.map fun n => W.str ⟨#[n]⟩) (fun n sl' S' => (∃ x3 x4, sl' = [some (.ref i), some (.str (txt t)), some (.ref kc), x3, x4]) ∧ S <+: S' ∧ S'[kc]? = some (.lst (cnts l t n 0))) ⟨⟨_, _, rfl⟩, p2, g2⟩ (fun _ _ _ _ => rfl) (fun n u sl' S' hw hp => ?_) fun sl' S' hp => ?_
  · obtain ⟨⟨x3, x4, rfl⟩, p3, g3⟩ := hp
    obtain ⟨c, hc, rfl⟩ := map_at hw
    have hcD : l.getD n 0 = c := getD_of hc
    have rb := rngB t.length (by omega)
    have rb2 := rngB2 t.length (by omega)
    simp only [ho_ok, ho_ret, ho_bd, ho_bdI, ho_bdO, hos_nx, hos_rt, hos_bk, hos_ct, hos_onx, hos_ort, hos_exS, hos_exT, hos_exA, hos_exI, nxt_nx, nxt_rt, nxt_bk, nxt_ct, hos_seq, hos_asg, fin_nx, fin_rt, ho_body1, ho_body2, ho_body3, ho_body4, ho_meth, ho_bm, ho_prop, ho_if, hos_if, ho_and, ho_or, ho_andT, ho_orT, ho_ite, ho_chain, ret_d, ngW_b, blM_b, truM_b, getSl_0, getSl_s, lstM_d, tupM_d, add_ii, add_ss, sub_ii, mul_ii, fdiv_ii, mod_ii, pow_ii, lt_ii, le_ii, gt_ii, ge_ii, eq_ii, ne_ii, eq_ss, ne_ss, intM_i, lenM_t, ixM_t, seqV_s, seqV_t, partM_i, in_1, List.length_cons, List.length_nil, List.length_singleton, List.map_cons, List.map_nil, List.cons_append, List.nil_append, List.set_cons_zero, List.set_cons_succ, List.replicate_succ, List.replicate_zero, List.append_nil, Nat.reduceAdd, Nat.reduceSub, Nat.zero_add, Nat.sub_self, Nat.reduceEqDiff, Nat.reduceLeDiff, if_true, if_false, ite_true, ite_false, reduceIte, decide_true, decide_false, Bool.not_true, Bool.not_false, true_and, and_true, Tgt.g, lenM_s, txt_len, tl, pyNeg, range3V, rb, rb2]
    refine ⟨by decide, ?_⟩
    refine hos_for (ws := (List.range t.length).map fun (i : Nat) => W.int ((t.length : Int) + (i : Nat) * (-1))) (fun j sl' S' => (∃ x4, sl' = [some (.ref i), some (.str (txt t)), some (.ref kc), some (.str ⟨#[c]⟩), x4]) ∧ S <+: S' ∧ S'[kc]? = some (.lst (cnts l t n j))) ⟨⟨_, rfl⟩, p3, g3⟩ (fun _ _ _ _ => rfl) (fun j u sl' S4 hw4 hp4 => ?_) fun sl' S4 hp4 => ?_
    · obtain ⟨⟨x4, rfl⟩, p4, g4⟩ := hp4
      obtain ⟨j', hj, rfl⟩ := map_at hw4
      have hjl : j < t.length := by
        have := (List.getElem?_eq_some_iff.mp hj).1
        simpa using this
      rw [List.getElem?_range hjl] at hj
      cases hj
      have ep : (t.length : Int) + (j : Nat) * (-1) = ((t.length - j : Nat) : Int) := by omega
      have ep2 : ((t.length - j : Nat) : Int) - 1 = ((t.length - j - 1 : Nat) : Int) := by omega
      have a1 := str_at (l := t) (n := t.length - j - 1) (by omega)
      have hnew : ∀ v : Nat, v = waysN l t (n + 1) (t.length - j) → (cnts l t n j).set (t.length - j) (.int (v : Int)) = cnts l t n (j + 1) := fun v hv => by
        apply List.ext_getElem?
        intro p
        by_cases hp : p ≤ t.length
        · rw [cnts_at hp, List.getElem?_set]
          by_cases he : t.length - j = p
          · rw [if_pos he, if_pos (by rw [cnts_len]; omega), if_pos (by omega), hv, he]
          · rw [if_neg he, cnts_at hp]
            by_cases h1 : t.length < p + j
            · rw [if_pos h1, if_pos (by omega)]
            · rw [if_neg h1, if_neg (by omega)]
        · rw [List.getElem?_eq_none (by rw [List.length_set, cnts_len]; omega), List.getElem?_eq_none (by rw [cnts_len]; omega)]
      have w2 := waysN_ss (l := l) (t := t) (n := n) (p := t.length - j - 1) (by omega)
      rw [show t.length - j - 1 + 1 = t.length - j by omega, hcD] at w2
      have c1 := cnts_at (l := l) (t := t) (n := n) (j := j) (p := t.length - j) (by omega)
      have c2 := cnts_at (l := l) (t := t) (n := n) (j := j) (p := t.length - j - 1) (by omega)
      rw [if_neg (by omega)] at c1 c2
      by_cases hq : t.getD (t.length - j - 1) 0 = c
      · rw [if_pos hq] at w2
        have a2 := atI_n c2
        have ix1 : ixN (cnts l t n j).length ((t.length - j : Nat) : Int) = some (t.length - j) := ixN_at (by rw [cnts_len]; omega)
        have il : ixL (.ref kc) (.int ((t.length - j : Nat) : Int)) S4 = .ok (.int (waysN l t n (t.length - j) : Nat)) S4 := by
          simp only [ixL, g4, Int.toNat_natCast, c1]
          rw [if_pos (by omega)]
        have st := setIx_l (v := .int ((waysN l t n (t.length - j) : Int) + (waysN l t n (t.length - j - 1) : Nat))) g4 ix1
        simp only [ho_ok, ho_ret, ho_bd, ho_bdI, ho_bdO, hos_nx, hos_rt, hos_bk, hos_ct, hos_onx, hos_ort, hos_exS, hos_exT, hos_exA, hos_exI, nxt_nx, nxt_rt, nxt_bk, nxt_ct, hos_seq, hos_asg, fin_nx, fin_rt, ho_body1, ho_body2, ho_body3, ho_body4, ho_meth, ho_bm, ho_prop, ho_if, hos_if, ho_and, ho_or, ho_andT, ho_orT, ho_ite, ho_chain, ret_d, ngW_b, blM_b, truM_b, getSl_0, getSl_s, lstM_d, tupM_d, add_ii, add_ss, sub_ii, mul_ii, fdiv_ii, mod_ii, pow_ii, lt_ii, le_ii, gt_ii, ge_ii, eq_ii, ne_ii, eq_ss, ne_ss, intM_i, lenM_t, ixM_t, seqV_s, seqV_t, partM_i, in_1, List.length_cons, List.length_nil, List.length_singleton, List.map_cons, List.map_nil, List.cons_append, List.nil_append, List.set_cons_zero, List.set_cons_succ, List.replicate_succ, List.replicate_zero, List.append_nil, Nat.reduceAdd, Nat.reduceSub, Nat.zero_add, Nat.sub_self, Nat.reduceEqDiff, Nat.reduceLeDiff, if_true, if_false, ite_true, ite_false, reduceIte, decide_true, decide_false, Bool.not_true, Bool.not_false, true_and, and_true, Tgt.g, ep, ep2, ixM_s, txt_list, a1, txt_len, tl, one_ne, hq, il, ixM_r _ (seq_lst g4), a2, st]
        refine ⟨⟨_, rfl⟩, pre_put2 p4 hge, ?_⟩
        rw [set_get g4, ← hnew (waysN l t n (t.length - j) + waysN l t n (t.length - j - 1)) w2.symm]
        rfl
      · rw [if_neg hq, Nat.add_zero] at w2
        simp only [ho_ok, ho_ret, ho_bd, ho_bdI, ho_bdO, hos_nx, hos_rt, hos_bk, hos_ct, hos_onx, hos_ort, hos_exS, hos_exT, hos_exA, hos_exI, nxt_nx, nxt_rt, nxt_bk, nxt_ct, hos_seq, hos_asg, fin_nx, fin_rt, ho_body1, ho_body2, ho_body3, ho_body4, ho_meth, ho_bm, ho_prop, ho_if, hos_if, ho_and, ho_or, ho_andT, ho_orT, ho_ite, ho_chain, ret_d, ngW_b, blM_b, truM_b, getSl_0, getSl_s, lstM_d, tupM_d, add_ii, add_ss, sub_ii, mul_ii, fdiv_ii, mod_ii, pow_ii, lt_ii, le_ii, gt_ii, ge_ii, eq_ii, ne_ii, eq_ss, ne_ss, intM_i, lenM_t, ixM_t, seqV_s, seqV_t, partM_i, in_1, List.length_cons, List.length_nil, List.length_singleton, List.map_cons, List.map_nil, List.cons_append, List.nil_append, List.set_cons_zero, List.set_cons_succ, List.replicate_succ, List.replicate_zero, List.append_nil, Nat.reduceAdd, Nat.reduceSub, Nat.zero_add, Nat.sub_self, Nat.reduceEqDiff, Nat.reduceLeDiff, if_true, if_false, ite_true, ite_false, reduceIte, decide_true, decide_false, Bool.not_true, Bool.not_false, true_and, and_true, Tgt.g, ep, ep2, ixM_s, txt_list, a1, txt_len, tl, one_ne, hq]
        refine ⟨⟨_, rfl⟩, p4, ?_⟩
        rw [g4, ← hnew (waysN l t n (t.length - j)) w2.symm]
        congr 2
        apply List.ext_getElem?
        intro p
        rw [List.getElem?_set]
        split
        · rename_i he
          subst he
          rw [if_pos (by rw [cnts_len]; omega), c1]
        · rfl
    · obtain ⟨⟨x4, rfl⟩, p4, g4⟩ := hp4
      rw [List.length_map, List.length_range, cnts_end] at g4
      exact ⟨⟨_, _, rfl⟩, p4, g4⟩
  · obtain ⟨⟨x3, x4, rfl⟩, p3, g3⟩ := hp
    rw [List.length_map] at g3
    have c1 := cnts_at (l := l) (t := t) (n := l.length) (j := 0) (p := t.length) (by omega)
    rw [if_neg (by omega)] at c1
    have a2 := atI_n c1
    simp only [ho_ok, ho_ret, ho_bd, ho_bdI, ho_bdO, hos_nx, hos_rt, hos_bk, hos_ct, hos_onx, hos_ort, hos_exS, hos_exT, hos_exA, hos_exI, nxt_nx, nxt_rt, nxt_bk, nxt_ct, hos_seq, hos_asg, fin_nx, fin_rt, ho_body1, ho_body2, ho_body3, ho_body4, ho_meth, ho_bm, ho_prop, ho_if, hos_if, ho_and, ho_or, ho_andT, ho_orT, ho_ite, ho_chain, ret_d, ngW_b, blM_b, truM_b, getSl_0, getSl_s, lstM_d, tupM_d, add_ii, add_ss, sub_ii, mul_ii, fdiv_ii, mod_ii, pow_ii, lt_ii, le_ii, gt_ii, ge_ii, eq_ii, ne_ii, eq_ss, ne_ss, intM_i, lenM_t, ixM_t, seqV_s, seqV_t, partM_i, in_1, List.length_cons, List.length_nil, List.length_singleton, List.map_cons, List.map_nil, List.cons_append, List.nil_append, List.set_cons_zero, List.set_cons_succ, List.replicate_succ, List.replicate_zero, List.append_nil, Nat.reduceAdd, Nat.reduceSub, Nat.zero_add, Nat.sub_self, Nat.reduceEqDiff, Nat.reduceLeDiff, if_true, if_false, ite_true, ite_false, reduceIte, decide_true, decide_false, Bool.not_true, Bool.not_false, true_and, and_true, lenM_s, txt_len, tl, ixM_r _ (seq_lst g3), a2]
    rw [waysN_all]
    exact ⟨rfl, p3⟩
theorem first_paper_ok (f : Fits w h l) (b : IsBath S i w h (txt l)) (h0 : t ≠ []) (hs : ∀ c ∈ t, c ∈ sgs) (hl : t.length ≤ 13) :
    Ho (g_first_paper [.ref i, .str (txt t)] S) (fun v S' => v = (if (gr l t l.length).length = t.length then .tup (nums (gr l t l.length)) else .non) ∧ S <+: S') noX := by
  have hz2 := sizeLine_big
  have z0 : (0 : Nat) ≤ sizeLine := by omega
  have l12 := f.l12
  have tl : t.length ≤ sizeLine := by omega
  unfold g_first_paper
  simp only [ho_ok, ho_ret, ho_bd, ho_bdI, ho_bdO, hos_nx, hos_rt, hos_bk, hos_ct, hos_onx, hos_ort, hos_exS, hos_exT, hos_exA, hos_exI, nxt_nx, nxt_rt, nxt_bk, nxt_ct, hos_seq, hos_asg, fin_nx, fin_rt, ho_body1, ho_body2, ho_body3, ho_body4, ho_meth, ho_bm, ho_prop, ho_if, hos_if, ho_and, ho_or, ho_andT, ho_orT, ho_ite, ho_chain, ret_d, ngW_b, blM_b, truM_b, getSl_0, getSl_s, lstM_d, tupM_d, add_ii, add_ss, sub_ii, mul_ii, fdiv_ii, mod_ii, pow_ii, lt_ii, le_ii, gt_ii, ge_ii, eq_ii, ne_ii, eq_ss, ne_ss, intM_i, lenM_t, ixM_t, seqV_s, seqV_t, partM_i, in_1, List.length_cons, List.length_nil, List.length_singleton, List.map_cons, List.map_nil, List.cons_append, List.nil_append, List.set_cons_zero, List.set_cons_succ, List.replicate_succ, List.replicate_zero, List.append_nil, Nat.reduceAdd, Nat.reduceSub, Nat.zero_add, Nat.sub_self, Nat.reduceEqDiff, Nat.reduceLeDiff, if_true, if_false, ite_true, ite_false, reduceIte, decide_true, decide_false, Bool.not_true, Bool.not_false, true_and, and_true, r_first_paper]
  refine Ho.call (check_some_ok h0 hs (by omega) S) ?_
  rintro v S1 ⟨rfl, p1⟩
  have p2 : S <+: S1 ++ [Ob.lst []] := p1.trans (List.prefix_append _ _)
  have hge : S.length ≤ S1.length := p1.length_le
  have g2 : (S1 ++ [Ob.lst []])[S1.length]? = some (.lst []) := get_last
  simp only [ho_ok, ho_ret, ho_bd, ho_bdI, ho_bdO, hos_nx, hos_rt, hos_bk, hos_ct, hos_onx, hos_ort, hos_exS, hos_exT, hos_exA, hos_exI, nxt_nx, nxt_rt, nxt_bk, nxt_ct, hos_seq, hos_asg, fin_nx, fin_rt, ho_body1, ho_body2, ho_body3, ho_body4, ho_meth, ho_bm, ho_prop, ho_if, hos_if, ho_and, ho_or, ho_andT, ho_orT, ho_ite, ho_chain, ret_d, ngW_b, blM_b, truM_b, getSl_0, getSl_s, lstM_d, tupM_d, add_ii, add_ss, sub_ii, mul_ii, fdiv_ii, mod_ii, pow_ii, lt_ii, le_ii, gt_ii, ge_ii, eq_ii, ne_ii, eq_ss, ne_ss, intM_i, lenM_t, ixM_t, seqV_s, seqV_t, partM_i, in_1, List.length_cons, List.length_nil, List.length_singleton, List.map_cons, List.map_nil, List.cons_append, List.nil_append, List.set_cons_zero, List.set_cons_succ, List.replicate_succ, List.replicate_zero, List.append_nil, Nat.reduceAdd, Nat.reduceSub, Nat.zero_add, Nat.sub_self, Nat.reduceEqDiff, Nat.reduceLeDiff, if_true, if_false, ite_true, ite_false, reduceIte, decide_true, decide_false, Bool.not_true, Bool.not_false, true_and, and_true, z0]
  generalize S1.length = kc at g2 hge ⊢
  generalize S1 ++ [Ob.lst []] = S2 at g2 p2 ⊢
  have b2 := b.up p2
  simp only [ho_ok, ho_ret, ho_bd, ho_bdI, ho_bdO, hos_nx, hos_rt, hos_bk, hos_ct, hos_onx, hos_ort, hos_exS, hos_exT, hos_exA, hos_exI, nxt_nx, nxt_rt, nxt_bk, nxt_ct, hos_seq, hos_asg, fin_nx, fin_rt, ho_body1, ho_body2, ho_body3, ho_body4, ho_meth, ho_bm, ho_prop, ho_if, hos_if, ho_and, ho_or, ho_andT, ho_orT, ho_ite, ho_chain, ret_d, ngW_b, blM_b, truM_b, getSl_0, getSl_s, lstM_d, tupM_d, add_ii, add_ss, sub_ii, mul_ii, fdiv_ii, mod_ii, pow_ii, lt_ii, le_ii, gt_ii, ge_ii, eq_ii, ne_ii, eq_ss, ne_ss, intM_i, lenM_t, ixM_t, seqV_s, seqV_t, partM_i, in_1, List.length_cons, List.length_nil, List.length_singleton, List.map_cons, List.map_nil, List.cons_append, List.nil_append, List.set_cons_zero, List.set_cons_succ, List.replicate_succ, List.replicate_zero, List.append_nil, Nat.reduceAdd, Nat.reduceSub, Nat.zero_add, Nat.sub_self, Nat.reduceEqDiff, Nat.reduceLeDiff, if_true, if_false, ite_true, ite_false, reduceIte, decide_true, decide_false, Bool.not_true, Bool.not_false, true_and, and_true, b2.cls, cells_ok b2, enumV_s, txt_list]
  refine hos_for (ws := enumL (l.map fun n => W.str ⟨#[n]⟩)) (fun n sl' S' => (∃ x3 x4, sl' = [some (.ref i), some (.str (txt t)), some (.ref kc), x3, x4]) ∧ S <+: S' ∧ S'[kc]? = some (.lst (nums (gr l t n)))) ⟨⟨_, _, rfl⟩, p2, g2⟩ (fun _ _ _ _ => rfl) (fun n u sl' S' hw hp => ?_) fun sl' S' hp => ?_
  · obtain ⟨⟨x3, x4, rfl⟩, p3, g3⟩ := hp
    rw [enumL_get, List.getElem?_map] at hw
    have hn : n < l.length := by
      cases q : l[n]? with
      | none => rw [q] at hw; cases hw
      | some c => exact (List.getElem?_eq_some_iff.mp q).1
    have hc : l[n]? = some (l.getD n 0) := getD_at hn
    rw [hc] at hw
    cases hw
    obtain ⟨q1, q2, q3, q4, q5⟩ := gr_ok l t n
    have z2 : (nums (gr l t n)).length < sizeLine := by rw [nums_len]; omega
    have z3 : gr l t (n + 1) = if (gr l t n).length < t.length ∧ t.getD (gr l t n).length 0 = l.getD n 0 then gr l t n ++ [n] else gr l t n := rfl
    by_cases h1 : (gr l t n).length < t.length
    · have a1 := str_at (l := t) h1
      have h1' : ((gr l t n).length : Int) < (t.length : Int) := by omega
      by_cases h2 : t.getD (gr l t n).length 0 = l.getD n 0
      · simp only [ho_ok, ho_ret, ho_bd, ho_bdI, ho_bdO, hos_nx, hos_rt, hos_bk, hos_ct, hos_onx, hos_ort, hos_exS, hos_exT, hos_exA, hos_exI, nxt_nx, nxt_rt, nxt_bk, nxt_ct, hos_seq, hos_asg, fin_nx, fin_rt, ho_body1, ho_body2, ho_body3, ho_body4, ho_meth, ho_bm, ho_prop, ho_if, hos_if, ho_and, ho_or, ho_andT, ho_orT, ho_ite, ho_chain, ret_d, ngW_b, blM_b, truM_b, getSl_0, getSl_s, lstM_d, tupM_d, add_ii, add_ss, sub_ii, mul_ii, fdiv_ii, mod_ii, pow_ii, lt_ii, le_ii, gt_ii, ge_ii, eq_ii, ne_ii, eq_ss, ne_ss, intM_i, lenM_t, ixM_t, seqV_s, seqV_t, partM_i, in_1, List.length_cons, List.length_nil, List.length_singleton, List.map_cons, List.map_nil, List.cons_append, List.nil_append, List.set_cons_zero, List.set_cons_succ, List.replicate_succ, List.replicate_zero, List.append_nil, Nat.reduceAdd, Nat.reduceSub, Nat.zero_add, Nat.sub_self, Nat.reduceEqDiff, Nat.reduceLeDiff, if_true, if_false, ite_true, ite_false, reduceIte, decide_true, decide_false, Bool.not_true, Bool.not_false, true_and, and_true, unpM, thenG, lenM_r (seq_lst g3), nums_len, lenM_s, txt_len, tl, h1', ixM_s, txt_list, a1, one_ne, h2, tyN_lst g3, app_l g3 z2]
        refine ⟨⟨_, _, rfl⟩, pre_put2 p3 hge, ?_⟩
        rw [set_get g3, z3, if_pos (show _ ∧ _ from ⟨h1, h2⟩), nums_app]
        rfl
      · simp only [ho_ok, ho_ret, ho_bd, ho_bdI, ho_bdO, hos_nx, hos_rt, hos_bk, hos_ct, hos_onx, hos_ort, hos_exS, hos_exT, hos_exA, hos_exI, nxt_nx, nxt_rt, nxt_bk, nxt_ct, hos_seq, hos_asg, fin_nx, fin_rt, ho_body1, ho_body2, ho_body3, ho_body4, ho_meth, ho_bm, ho_prop, ho_if, hos_if, ho_and, ho_or, ho_andT, ho_orT, ho_ite, ho_chain, ret_d, ngW_b, blM_b, truM_b, getSl_0, getSl_s, lstM_d, tupM_d, add_ii, add_ss, sub_ii, mul_ii, fdiv_ii, mod_ii, pow_ii, lt_ii, le_ii, gt_ii, ge_ii, eq_ii, ne_ii, eq_ss, ne_ss, intM_i, lenM_t, ixM_t, seqV_s, seqV_t, partM_i, in_1, List.length_cons, List.length_nil, List.length_singleton, List.map_cons, List.map_nil, List.cons_append, List.nil_append, List.set_cons_zero, List.set_cons_succ, List.replicate_succ, List.replicate_zero, List.append_nil, Nat.reduceAdd, Nat.reduceSub, Nat.zero_add, Nat.sub_self, Nat.reduceEqDiff, Nat.reduceLeDiff, if_true, if_false, ite_true, ite_false, reduceIte, decide_true, decide_false, Bool.not_true, Bool.not_false, true_and, and_true, unpM, thenG, lenM_r (seq_lst g3), nums_len, lenM_s, txt_len, tl, h1', ixM_s, txt_list, a1, one_ne, h2]
        refine ⟨⟨_, _, rfl⟩, p3, ?_⟩
        rw [g3, z3, if_neg (fun z => h2 z.2)]
    · have h1' : ¬ ((gr l t n).length : Int) < (t.length : Int) := by omega
      simp only [ho_ok, ho_ret, ho_bd, ho_bdI, ho_bdO, hos_nx, hos_rt, hos_bk, hos_ct, hos_onx, hos_ort, hos_exS, hos_exT, hos_exA, hos_exI, nxt_nx, nxt_rt, nxt_bk, nxt_ct, hos_seq, hos_asg, fin_nx, fin_rt, ho_body1, ho_body2, ho_body3, ho_body4, ho_meth, ho_bm, ho_prop, ho_if, hos_if, ho_and, ho_or, ho_andT, ho_orT, ho_ite, ho_chain, ret_d, ngW_b, blM_b, truM_b, getSl_0, getSl_s, lstM_d, tupM_d, add_ii, add_ss, sub_ii, mul_ii, fdiv_ii, mod_ii, pow_ii, lt_ii, le_ii, gt_ii, ge_ii, eq_ii, ne_ii, eq_ss, ne_ss, intM_i, lenM_t, ixM_t, seqV_s, seqV_t, partM_i, in_1, List.length_cons, List.length_nil, List.length_singleton, List.map_cons, List.map_nil, List.cons_append, List.nil_append, List.set_cons_zero, List.set_cons_succ, List.replicate_succ, List.replicate_zero, List.append_nil, Nat.reduceAdd, Nat.reduceSub, Nat.zero_add, Nat.sub_self, Nat.reduceEqDiff, Nat.reduceLeDiff, if_true, if_false, ite_true, ite_false, reduceIte, decide_true, decide_false, Bool.not_true, Bool.not_false, true_and, and_true, unpM, thenG, lenM_r (seq_lst g3), nums_len, lenM_s, txt_len, tl, h1']
      refine ⟨⟨_, _, rfl⟩, p3, ?_⟩
      rw [g3, z3, if_neg (fun z => h1 z.1)]
  · obtain ⟨⟨x3, x4, rfl⟩, p3, g3⟩ := hp
    rw [enumL_len, List.length_map] at g3
    by_cases h1 : (gr l t l.length).length = t.length
    · have h1' : ((gr l t l.length).length : Int) = (t.length : Int) := by omega
      simp only [ho_ok, ho_ret, ho_bd, ho_bdI, ho_bdO, hos_nx, hos_rt, hos_bk, hos_ct, hos_onx, hos_ort, hos_exS, hos_exT, hos_exA, hos_exI, nxt_nx, nxt_rt, nxt_bk, nxt_ct, hos_seq, hos_asg, fin_nx, fin_rt, ho_body1, ho_body2, ho_body3, ho_body4, ho_meth, ho_bm, ho_prop, ho_if, hos_if, ho_and, ho_or, ho_andT, ho_orT, ho_ite, ho_chain, ret_d, ngW_b, blM_b, truM_b, getSl_0, getSl_s, lstM_d, tupM_d, add_ii, add_ss, sub_ii, mul_ii, fdiv_ii, mod_ii, pow_ii, lt_ii, le_ii, gt_ii, ge_ii, eq_ii, ne_ii, eq_ss, ne_ss, intM_i, lenM_t, ixM_t, seqV_s, seqV_t, partM_i, in_1, List.length_cons, List.length_nil, List.length_singleton, List.map_cons, List.map_nil, List.cons_append, List.nil_append, List.set_cons_zero, List.set_cons_succ, List.replicate_succ, List.replicate_zero, List.append_nil, Nat.reduceAdd, Nat.reduceSub, Nat.zero_add, Nat.sub_self, Nat.reduceEqDiff, Nat.reduceLeDiff, if_true, if_false, ite_true, ite_false, reduceIte, decide_true, decide_false, Bool.not_true, Bool.not_false, true_and, and_true, lenM_r (seq_lst g3), nums_len, lenM_s, txt_len, tl, h1', h1, tupleM_r (seq_lst g3)]
      first | exact p3 | exact ⟨rfl, p3⟩ | exact ⟨trivial, p3⟩
    · have h1' : ¬ ((gr l t l.length).length : Int) = (t.length : Int) := by omega
      simp only [ho_ok, ho_ret, ho_bd, ho_bdI, ho_bdO, hos_nx, hos_rt, hos_bk, hos_ct, hos_onx, hos_ort, hos_exS, hos_exT, hos_exA, hos_exI, nxt_nx, nxt_rt, nxt_bk, nxt_ct, hos_seq, hos_asg, fin_nx, fin_rt, ho_body1, ho_body2, ho_body3, ho_body4, ho_meth, ho_bm, ho_prop, ho_if, hos_if, ho_and, ho_or, ho_andT, ho_orT, ho_ite, ho_chain, ret_d, ngW_b, blM_b, truM_b, getSl_0, getSl_s, lstM_d, tupM_d, add_ii, add_ss, sub_ii, mul_ii, fdiv_ii, mod_ii, pow_ii, lt_ii, le_ii, gt_ii, ge_ii, eq_ii, ne_ii, eq_ss, ne_ss, intM_i, lenM_t, ixM_t, seqV_s, seqV_t, partM_i, in_1, List.length_cons, List.length_nil, List.length_singleton, List.map_cons, List.map_nil, List.cons_append, List.nil_append, List.set_cons_zero, List.set_cons_succ, List.replicate_succ, List.replicate_zero, List.append_nil, Nat.reduceAdd, Nat.reduceSub, Nat.zero_add, Nat.sub_self, Nat.reduceEqDiff, Nat.reduceLeDiff, if_true, if_false, ite_true, ite_false, reduceIte, decide_true, decide_false, Bool.not_true, Bool.not_false, true_and, and_true, lenM_r (seq_lst g3), nums_len, lenM_s, txt_len, tl, h1', h1]
      first | exact p3 | exact ⟨rfl, p3⟩ | exact ⟨trivial, p3⟩
end
theorem cut_head {l : List Nat} {m : Nat} (h : m ≤ l.length) : cutS (txt l) none (some (m : Int)) = txt (l.take m) := by
  unfold cutS
  rw [txt_len, txt_list, show HT.sIx l.length 0 none = 0 from rfl, HT.sIx_nat, show min m l.length = m by omega, List.drop_zero, Nat.sub_zero]
  rfl
theorem small_ok {S : Sto} {r : Nat} (R : Row S r) : Ho (g__law_small [.ref r] S) (fun v S' => ∃ i w h l, v = .ref i ∧ i ≠ r ∧ Fits w h l ∧ l.length ≤ 6 ∧ 0 < l.length ∧ (∀ c ∈ l, c ∈ [46, 97, 98, 99]) ∧ IsBath S' i w h (txt l) ∧ Row S' r ∧ Fr r S S') noX := by
  have hz2 := sizeLine_big
  unfold g__law_small
  simp only [ho_ok, ho_ret, ho_bd, ho_bdI, ho_bdO, hos_nx, hos_rt, hos_bk, hos_ct, hos_onx, hos_ort, hos_exS, hos_exT, hos_exA, hos_exI, nxt_nx, nxt_rt, nxt_bk, nxt_ct, hos_seq, hos_asg, fin_nx, fin_rt, ho_body1, ho_body2, ho_body3, ho_body4, ho_meth, ho_bm, ho_prop, ho_if, hos_if, ho_and, ho_or, ho_andT, ho_orT, ho_ite, ho_chain, ret_d, ngW_b, blM_b, truM_b, getSl_0, getSl_s, lstM_d, tupM_d, add_ii, add_ss, sub_ii, mul_ii, fdiv_ii, mod_ii, pow_ii, lt_ii, le_ii, gt_ii, ge_ii, eq_ii, ne_ii, eq_ss, ne_ss, intM_i, lenM_t, ixM_t, seqV_s, seqV_t, partM_i, in_1, List.length_cons, List.length_nil, List.length_singleton, List.map_cons, List.map_nil, List.cons_append, List.nil_append, List.set_cons_zero, List.set_cons_succ, List.replicate_succ, List.replicate_zero, List.append_nil, Nat.reduceAdd, Nat.reduceSub, Nat.zero_add, Nat.sub_self, Nat.reduceEqDiff, Nat.reduceLeDiff, if_true, if_false, ite_true, ite_false, reduceIte, decide_true, decide_false, Bool.not_true, Bool.not_false, true_and, and_true, r__law_small]
  refine Ho.call (bath_ok R) ?_
  rintro v S1 ⟨i, w, h, l, rfl, hne, f, h4, b, R1, f1⟩
  have pos : 0 < l.length := by
    have := f.len
    have := Int.mul_pos (show 0 < w by have := f.w1; omega) (show 0 < h by have := f.h1; omega)
    omega
  have l12 := f.l12
  by_cases hl : (l.length : Int) < 7
  · simp only [ho_ok, ho_ret, ho_bd, ho_bdI, ho_bdO, hos_nx, hos_rt, hos_bk, hos_ct, hos_onx, hos_ort, hos_exS, hos_exT, hos_exA, hos_exI, nxt_nx, nxt_rt, nxt_bk, nxt_ct, hos_seq, hos_asg, fin_nx, fin_rt, ho_body1, ho_body2, ho_body3, ho_body4, ho_meth, ho_bm, ho_prop, ho_if, hos_if, ho_and, ho_or, ho_andT, ho_orT, ho_ite, ho_chain, ret_d, ngW_b, blM_b, truM_b, getSl_0, getSl_s, lstM_d, tupM_d, add_ii, add_ss, sub_ii, mul_ii, fdiv_ii, mod_ii, pow_ii, lt_ii, le_ii, gt_ii, ge_ii, eq_ii, ne_ii, eq_ss, ne_ss, intM_i, lenM_t, ixM_t, seqV_s, seqV_t, partM_i, in_1, List.length_cons, List.length_nil, List.length_singleton, List.map_cons, List.map_nil, List.cons_append, List.nil_append, List.set_cons_zero, List.set_cons_succ, List.replicate_succ, List.replicate_zero, List.append_nil, Nat.reduceAdd, Nat.reduceSub, Nat.zero_add, Nat.sub_self, Nat.reduceEqDiff, Nat.reduceLeDiff, if_true, if_false, ite_true, ite_false, reduceIte, decide_true, decide_false, Bool.not_true, Bool.not_false, true_and, and_true, len_ok f b, hl]
    exact ⟨i, w, h, l, rfl, hne, f, by omega, pos, h4, b, R1, f1⟩
  · have ec := cut_head (l := l) (m := 4) (by omega)
    have ec : cutS (txt l) none (some 4) = txt (l.take 4) := ec
    have tl : l.length ≤ sizeLine := by omega
    have f4 : Fits 2 2 (l.take 4) := ⟨by decide, by decide, by decide, by decide, by decide, by rw [List.length_take]; omega, fun c hc => f.sg c (List.mem_of_mem_take hc)⟩
    simp only [ho_ok, ho_ret, ho_bd, ho_bdI, ho_bdO, hos_nx, hos_rt, hos_bk, hos_ct, hos_onx, hos_ort, hos_exS, hos_exT, hos_exA, hos_exI, nxt_nx, nxt_rt, nxt_bk, nxt_ct, hos_seq, hos_asg, fin_nx, fin_rt, ho_body1, ho_body2, ho_body3, ho_body4, ho_meth, ho_bm, ho_prop, ho_if, hos_if, ho_and, ho_or, ho_andT, ho_orT, ho_ite, ho_chain, ret_d, ngW_b, blM_b, truM_b, getSl_0, getSl_s, lstM_d, tupM_d, add_ii, add_ss, sub_ii, mul_ii, fdiv_ii, mod_ii, pow_ii, lt_ii, le_ii, gt_ii, ge_ii, eq_ii, ne_ii, eq_ss, ne_ss, intM_i, lenM_t, ixM_t, seqV_s, seqV_t, partM_i, in_1, List.length_cons, List.length_nil, List.length_singleton, List.map_cons, List.map_nil, List.cons_append, List.nil_append, List.set_cons_zero, List.set_cons_succ, List.replicate_succ, List.replicate_zero, List.append_nil, Nat.reduceAdd, Nat.reduceSub, Nat.zero_add, Nat.sub_self, Nat.reduceEqDiff, Nat.reduceLeDiff, if_true, if_false, ite_true, ite_false, reduceIte, decide_true, decide_false, Bool.not_true, Bool.not_false, true_and, and_true, len_ok f b, hl, b.cls, cells_ok b, sliceM, txt_len, tl, ec]
    refine Ho.call (make_ok f4 S1) ?_
    rintro v S2 ⟨k, rfl, p2, b2⟩
    have R2 := R1.fr p2
    refine ⟨k, 2, 2, l.take 4, rfl, fun e => ?_, f4, by rw [List.length_take]; omega, by rw [List.length_take]; omega, fun c hc => h4 c (List.mem_of_mem_take hc), b2, R2, f1.trans (Ext.fr p2)⟩
    subst e
    obtain ⟨sc, ns, i', a', b', q, _⟩ := R2
    rw [b2] at q
    cases q
theorem subsets_ok (n : Nat) (hn : n ≤ 6) (S : Sto) : Ho (g__law_subsets [.int n] S) (fun v S' => ∃ k, v = .ref k ∧ S <+: S' ∧ S'[k]? = some (.lst ((subs n).map tupN))) noX := by
  have hz2 := sizeLine_big
  have z0 : (0 : Nat) ≤ sizeLine := by omega
  have z1 : (1 : Nat) ≤ sizeLine := by omega
  have rb : -(2 ^ 62) ≤ (n : Int) ∧ (n : Int) < 2 ^ 62 := ⟨by omega, by omega⟩
  unfold g__law_subsets
  simp only [ho_ok, ho_ret, ho_bd, ho_bdI, ho_bdO, hos_nx, hos_rt, hos_bk, hos_ct, hos_onx, hos_ort, hos_exS, hos_exT, hos_exA, hos_exI, nxt_nx, nxt_rt, nxt_bk, nxt_ct, hos_seq, hos_asg, fin_nx, fin_rt, ho_body1, ho_body2, ho_body3, ho_body4, ho_meth, ho_bm, ho_prop, ho_if, hos_if, ho_and, ho_or, ho_andT, ho_orT, ho_ite, ho_chain, ret_d, ngW_b, blM_b, truM_b, getSl_0, getSl_s, lstM_d, tupM_d, add_ii, add_ss, sub_ii, mul_ii, fdiv_ii, mod_ii, pow_ii, lt_ii, le_ii, gt_ii, ge_ii, eq_ii, ne_ii, eq_ss, ne_ss, intM_i, lenM_t, ixM_t, seqV_s, seqV_t, partM_i, in_1, List.length_cons, List.length_nil, List.length_singleton, List.map_cons, List.map_nil, List.cons_append, List.nil_append, List.set_cons_zero, List.set_cons_succ, List.replicate_succ, List.replicate_zero, List.append_nil, Nat.reduceAdd, Nat.reduceSub, Nat.zero_add, Nat.sub_self, Nat.reduceEqDiff, Nat.reduceLeDiff, if_true, if_false, ite_true, ite_false, reduceIte, decide_true, decide_false, Bool.not_true, Bool.not_false, true_and, and_true, r__law_subsets, z0, z1, rng1_i, rb]
  refine hos_for (ws := (List.range (n : Int).toNat).map fun (n : Nat) => W.int n) (fun m sl' S' => (∃ k x2, sl' = [some (.int n), some (.ref k), x2, none] ∧ S'[k]? = some (.lst ((subs m).map tupN))) ∧ S <+: S' ∧ m ≤ n) ⟨⟨S.length, _, rfl, get_last⟩, List.prefix_append _ _, by omega⟩ (fun _ _ _ _ => rfl) (fun m u sl' S' hw hp => ?_) fun sl' S' hp => ?_
  · obtain ⟨⟨k, x2, rfl, gk⟩, p, hm⟩ := hp
    obtain ⟨hj, rfl⟩ := rng_at hw
    have sz : (subs m).length ≤ 64 := by
      rw [subs_len]
      exact Nat.pow_le_pow_right (by omega) (show m ≤ 6 by omega)
    simp only [ho_ok, ho_ret, ho_bd, ho_bdI, ho_bdO, hos_nx, hos_rt, hos_bk, hos_ct, hos_onx, hos_ort, hos_exS, hos_exT, hos_exA, hos_exI, nxt_nx, nxt_rt, nxt_bk, nxt_ct, hos_seq, hos_asg, fin_nx, fin_rt, ho_body1, ho_body2, ho_body3, ho_body4, ho_meth, ho_bm, ho_prop, ho_if, hos_if, ho_and, ho_or, ho_andT, ho_orT, ho_ite, ho_chain, ret_d, ngW_b, blM_b, truM_b, getSl_0, getSl_s, lstM_d, tupM_d, add_ii, add_ss, sub_ii, mul_ii, fdiv_ii, mod_ii, pow_ii, lt_ii, le_ii, gt_ii, ge_ii, eq_ii, ne_ii, eq_ss, ne_ss, intM_i, lenM_t, ixM_t, seqV_s, seqV_t, partM_i, in_1, List.length_cons, List.length_nil, List.length_singleton, List.map_cons, List.map_nil, List.cons_append, List.nil_append, List.set_cons_zero, List.set_cons_succ, List.replicate_succ, List.replicate_zero, List.append_nil, Nat.reduceAdd, Nat.reduceSub, Nat.zero_add, Nat.sub_self, Nat.reduceEqDiff, Nat.reduceLeDiff, if_true, if_false, ite_true, ite_false, reduceIte, decide_true, decide_false, Bool.not_true, Bool.not_false, true_and, and_true, Tgt.g, seqV_r (seq_lst gk)]
    refine ho_lc (ws := (subs m).map tupN) (fun q acc S2 => S2 = S' ∧ acc = ((subs m).take q).map fun s => tupN (s ++ [m])) ⟨rfl, rfl⟩ (fun _ _ _ h => by rw [h.1]; exact seq_lst gk) (fun q u acc S2 hw2 hp2 => ?_) fun acc S2 hp2 => ?_
    · obtain ⟨rfl, rfl⟩ := hp2
      obtain ⟨s, hs, rfl⟩ := map_at hw2
      have hsl := (subs_ok m s (List.mem_of_getElem? hs)).2.2
      have z5 : s.length + 1 ≤ sizeLine := by omega
      simp only [ho_ok, ho_ret, ho_bd, ho_bdI, ho_bdO, hos_nx, hos_rt, hos_bk, hos_ct, hos_onx, hos_ort, hos_exS, hos_exT, hos_exA, hos_exI, nxt_nx, nxt_rt, nxt_bk, nxt_ct, hos_seq, hos_asg, fin_nx, fin_rt, ho_body1, ho_body2, ho_body3, ho_body4, ho_meth, ho_bm, ho_prop, ho_if, hos_if, ho_and, ho_or, ho_andT, ho_orT, ho_ite, ho_chain, ret_d, ngW_b, blM_b, truM_b, getSl_0, getSl_s, lstM_d, tupM_d, add_ii, add_ss, sub_ii, mul_ii, fdiv_ii, mod_ii, pow_ii, lt_ii, le_ii, gt_ii, ge_ii, eq_ii, ne_ii, eq_ss, ne_ss, intM_i, lenM_t, ixM_t, seqV_s, seqV_t, partM_i, in_1, List.length_cons, List.length_nil, List.length_singleton, List.map_cons, List.map_nil, List.cons_append, List.nil_append, List.set_cons_zero, List.set_cons_succ, List.replicate_succ, List.replicate_zero, List.append_nil, Nat.reduceAdd, Nat.reduceSub, Nat.zero_add, Nat.sub_self, Nat.reduceEqDiff, Nat.reduceLeDiff, if_true, if_false, ite_true, ite_false, reduceIte, decide_true, decide_false, Bool.not_true, Bool.not_false, true_and, and_true, wipeS, tupN, z1, add_tt, nums_len, List.length_cons, List.length_nil, z5]
      refine ⟨by simp; omega, ?_⟩
      rw [List.take_add_one, hs]
      simp [tupN, nums_app, nums]
    · obtain ⟨rfl, rfl⟩ := hp2
      rw [List.length_map, List.take_length]
      have e := add_rr (S := S2 ++ [Ob.lst ((subs m).map fun s => tupN (s ++ [m]))]) (get_app gk) get_last (by simp; omega)
      simp only [ho_ok, ho_ret, ho_bd, ho_bdI, ho_bdO, hos_nx, hos_rt, hos_bk, hos_ct, hos_onx, hos_ort, hos_exS, hos_exT, hos_exA, hos_exI, nxt_nx, nxt_rt, nxt_bk, nxt_ct, hos_seq, hos_asg, fin_nx, fin_rt, ho_body1, ho_body2, ho_body3, ho_body4, ho_meth, ho_bm, ho_prop, ho_if, hos_if, ho_and, ho_or, ho_andT, ho_orT, ho_ite, ho_chain, ret_d, ngW_b, blM_b, truM_b, getSl_0, getSl_s, lstM_d, tupM_d, add_ii, add_ss, sub_ii, mul_ii, fdiv_ii, mod_ii, pow_ii, lt_ii, le_ii, gt_ii, ge_ii, eq_ii, ne_ii, eq_ss, ne_ss, intM_i, lenM_t, ixM_t, seqV_s, seqV_t, partM_i, in_1, List.length_cons, List.length_nil, List.length_singleton, List.map_cons, List.map_nil, List.cons_append, List.nil_append, List.set_cons_zero, List.set_cons_succ, List.replicate_succ, List.replicate_zero, List.append_nil, Nat.reduceAdd, Nat.reduceSub, Nat.zero_add, Nat.sub_self, Nat.reduceEqDiff, Nat.reduceLeDiff, if_true, if_false, ite_true, ite_false, reduceIte, decide_true, decide_false, Bool.not_true, Bool.not_false, true_and, and_true, e]
      refine ⟨⟨_, _, rfl, ?_⟩, (p.trans (List.prefix_append _ _)).trans (List.prefix_append _ _), by omega⟩
      rw [get_last]
      simp [subs]
  · obtain ⟨⟨k, x2, rfl, gk⟩, p, hm⟩ := hp
    have e : ((List.range (n : Int).toNat).map fun (n : Nat) => W.int n).length = n := by simp
    rw [e] at gk
    simp only [ho_ok, ho_ret, ho_bd, ho_bdI, ho_bdO, hos_nx, hos_rt, hos_bk, hos_ct, hos_onx, hos_ort, hos_exS, hos_exT, hos_exA, hos_exI, nxt_nx, nxt_rt, nxt_bk, nxt_ct, hos_seq, hos_asg, fin_nx, fin_rt, ho_body1, ho_body2, ho_body3, ho_body4, ho_meth, ho_bm, ho_prop, ho_if, hos_if, ho_and, ho_or, ho_andT, ho_orT, ho_ite, ho_chain, ret_d, ngW_b, blM_b, truM_b, getSl_0, getSl_s, lstM_d, tupM_d, add_ii, add_ss, sub_ii, mul_ii, fdiv_ii, mod_ii, pow_ii, lt_ii, le_ii, gt_ii, ge_ii, eq_ii, ne_ii, eq_ss, ne_ss, intM_i, lenM_t, ixM_t, seqV_s, seqV_t, partM_i, in_1, List.length_cons, List.length_nil, List.length_singleton, List.map_cons, List.map_nil, List.cons_append, List.nil_append, List.set_cons_zero, List.set_cons_succ, List.replicate_succ, List.replicate_zero, List.append_nil, Nat.reduceAdd, Nat.reduceSub, Nat.zero_add, Nat.sub_self, Nat.reduceEqDiff, Nat.reduceLeDiff, if_true, if_false, ite_true, ite_false, reduceIte, decide_true, decide_false, Bool.not_true, Bool.not_false, true_and, and_true]
    exact ⟨k, rfl, p, gk⟩
theorem strides_ok {S : Sto} {r : Nat} (R : Row S r) (n : Nat) (hn : n ≤ 5) : Ho (g__law_strides [.ref r, .int n] S) (fun v S' => ∃ ss : List Int, v = .tup (ss.map W.int) ∧ ss.length = n ∧ (∀ s ∈ ss, -9 ≤ s ∧ s ≤ 9) ∧ Row S' r ∧ Fr r S S') noX := by
  have rb : -(2 ^ 62) ≤ (n : Int) ∧ (n : Int) < 2 ^ 62 := ⟨by omega, by omega⟩
  have hz2 := sizeLine_big
  unfold g__law_strides
  simp only [ho_ok, ho_ret, ho_bd, ho_bdI, ho_bdO, hos_nx, hos_rt, hos_bk, hos_ct, hos_onx, hos_ort, hos_exS, hos_exT, hos_exA, hos_exI, nxt_nx, nxt_rt, nxt_bk, nxt_ct, hos_seq, hos_asg, fin_nx, fin_rt, ho_body1, ho_body2, ho_body3, ho_body4, ho_meth, ho_bm, ho_prop, ho_if, hos_if, ho_and, ho_or, ho_andT, ho_orT, ho_ite, ho_chain, ret_d, ngW_b, blM_b, truM_b, getSl_0, getSl_s, lstM_d, tupM_d, add_ii, add_ss, sub_ii, mul_ii, fdiv_ii, mod_ii, pow_ii, lt_ii, le_ii, gt_ii, ge_ii, eq_ii, ne_ii, eq_ss, ne_ss, intM_i, lenM_t, ixM_t, seqV_s, seqV_t, partM_i, in_1, List.length_cons, List.length_nil, List.length_singleton, List.map_cons, List.map_nil, List.cons_append, List.nil_append, List.set_cons_zero, List.set_cons_succ, List.replicate_succ, List.replicate_zero, List.append_nil, Nat.reduceAdd, Nat.reduceSub, Nat.zero_add, Nat.sub_self, Nat.reduceEqDiff, Nat.reduceLeDiff, if_true, if_false, ite_true, ite_false, reduceIte, decide_true, decide_false, Bool.not_true, Bool.not_false, true_and, and_true, r__law_strides, rng1_i, rb]
  refine ho_lc (ws := (List.range (n : Int).toNat).map fun (n : Nat) => W.int n) (fun j acc S' => (∃ ss : List Int, acc = ss.map W.int ∧ ss.length = j ∧ ∀ s ∈ ss, -9 ≤ s ∧ s ≤ 9) ∧ Row S' r ∧ Fr r S S') ⟨⟨[], rfl, rfl, by simp⟩, R, Fr.refl⟩ (fun _ _ _ _ => rfl) (fun j u acc S' hw hp => ?_) fun acc S' hp => ?_
  · obtain ⟨⟨ss, rfl, hj, hs⟩, R1, f1⟩ := hp
    have hjn : j < n := by
      have := (List.getElem?_eq_some_iff.mp hw).1
      simpa using this
    simp only [ho_ok, ho_ret, ho_bd, ho_bdI, ho_bdO, hos_nx, hos_rt, hos_bk, hos_ct, hos_onx, hos_ort, hos_exS, hos_exT, hos_exA, hos_exI, nxt_nx, nxt_rt, nxt_bk, nxt_ct, hos_seq, hos_asg, fin_nx, fin_rt, ho_body1, ho_body2, ho_body3, ho_body4, ho_meth, ho_bm, ho_prop, ho_if, hos_if, ho_and, ho_or, ho_andT, ho_orT, ho_ite, ho_chain, ret_d, ngW_b, blM_b, truM_b, getSl_0, getSl_s, lstM_d, tupM_d, add_ii, add_ss, sub_ii, mul_ii, fdiv_ii, mod_ii, pow_ii, lt_ii, le_ii, gt_ii, ge_ii, eq_ii, ne_ii, eq_ss, ne_ss, intM_i, lenM_t, ixM_t, seqV_s, seqV_t, partM_i, in_1, List.length_cons, List.length_nil, List.length_singleton, List.map_cons, List.map_nil, List.cons_append, List.nil_append, List.set_cons_zero, List.set_cons_succ, List.replicate_succ, List.replicate_zero, List.append_nil, Nat.reduceAdd, Nat.reduceSub, Nat.zero_add, Nat.sub_self, Nat.reduceEqDiff, Nat.reduceLeDiff, if_true, if_false, ite_true, ite_false, reduceIte, decide_true, decide_false, Bool.not_true, Bool.not_false, true_and, and_true, Tgt.g, wipeS]
    refine Ho.call (taken_ok R1 (by decide) (by decide)) ?_
    rintro v S2 ⟨a, rfl, a0, a1, R2, f2, _⟩
    simp only [ho_ok, ho_ret, ho_bd, ho_bdI, ho_bdO, hos_nx, hos_rt, hos_bk, hos_ct, hos_onx, hos_ort, hos_exS, hos_exT, hos_exA, hos_exI, nxt_nx, nxt_rt, nxt_bk, nxt_ct, hos_seq, hos_asg, fin_nx, fin_rt, ho_body1, ho_body2, ho_body3, ho_body4, ho_meth, ho_bm, ho_prop, ho_if, hos_if, ho_and, ho_or, ho_andT, ho_orT, ho_ite, ho_chain, ret_d, ngW_b, blM_b, truM_b, getSl_0, getSl_s, lstM_d, tupM_d, add_ii, add_ss, sub_ii, mul_ii, fdiv_ii, mod_ii, pow_ii, lt_ii, le_ii, gt_ii, ge_ii, eq_ii, ne_ii, eq_ss, ne_ss, intM_i, lenM_t, ixM_t, seqV_s, seqV_t, partM_i, in_1, List.length_cons, List.length_nil, List.length_singleton, List.map_cons, List.map_nil, List.cons_append, List.nil_append, List.set_cons_zero, List.set_cons_succ, List.replicate_succ, List.replicate_zero, List.append_nil, Nat.reduceAdd, Nat.reduceSub, Nat.zero_add, Nat.sub_self, Nat.reduceEqDiff, Nat.reduceLeDiff, if_true, if_false, ite_true, ite_false, reduceIte, decide_true, decide_false, Bool.not_true, Bool.not_false, true_and, and_true]
    refine ⟨by simp; omega, ⟨ss ++ [a - 9], by simp, by simp [hj], fun s hs' => ?_⟩, R2, f1.trans f2⟩
    rcases List.mem_append.mp hs' with h | h
    · exact hs s h
    · rw [List.mem_singleton.mp h]; omega
  · obtain ⟨⟨ss, rfl, hj, hs⟩, R1, f1⟩ := hp
    have e : ((List.range (n : Int).toNat).map fun (n : Nat) => W.int n).length = n := by simp
    rw [e] at hj
    simp only [ho_ok, ho_ret, ho_bd, ho_bdI, ho_bdO, hos_nx, hos_rt, hos_bk, hos_ct, hos_onx, hos_ort, hos_exS, hos_exT, hos_exA, hos_exI, nxt_nx, nxt_rt, nxt_bk, nxt_ct, hos_seq, hos_asg, fin_nx, fin_rt, ho_body1, ho_body2, ho_body3, ho_body4, ho_meth, ho_bm, ho_prop, ho_if, hos_if, ho_and, ho_or, ho_andT, ho_orT, ho_ite, ho_chain, ret_d, ngW_b, blM_b, truM_b, getSl_0, getSl_s, lstM_d, tupM_d, add_ii, add_ss, sub_ii, mul_ii, fdiv_ii, mod_ii, pow_ii, lt_ii, le_ii, gt_ii, ge_ii, eq_ii, ne_ii, eq_ss, ne_ss, intM_i, lenM_t, ixM_t, seqV_s, seqV_t, partM_i, in_1, List.length_cons, List.length_nil, List.length_singleton, List.map_cons, List.map_nil, List.cons_append, List.nil_append, List.set_cons_zero, List.set_cons_succ, List.replicate_succ, List.replicate_zero, List.append_nil, Nat.reduceAdd, Nat.reduceSub, Nat.zero_add, Nat.sub_self, Nat.reduceEqDiff, Nat.reduceLeDiff, if_true, if_false, ite_true, ite_false, reduceIte, decide_true, decide_false, Bool.not_true, Bool.not_false, true_and, and_true, tupleM_r (seq_lst (get_last (S := S')))]
    exact ⟨ss, rfl, hj, hs, R1.fr ⟨_, rfl⟩, f1.trans Fr.app⟩
end Lw


namespace Lw
open PySem L2 RP
theorem bath_row {S : Sto} {i r : Nat} {w h : Int} {z : Str} (b : IsBath S i w h z) (R : Row S r) : i ≠ r := fun e => by
  subst e
  obtain ⟨sc, ns, i', a', b', q, _⟩ := R
  rw [b] at q
  cases q
theorem IsBath.fr {S S' : Sto} {i r : Nat} {w h : Int} {z : Str} (b : IsBath S i w h z) (R : Row S r) (f : Fr r S S') : IsBath S' i w h z := f.get i _ (bath_row b R) b
section
variable {S : Sto} {i r : Nat} {w h : Nat} {l : List Nat}
theorem abx_in : ∀ n < 3, ∃ c, (Str.ofString "abx").cps.toList[n]? = some c ∧ c ∈ lets := by
  intro n hn
  match n, hn with
  | 0, _ => exact ⟨97, by decide +kernel, by decide⟩
  | 1, _ => exact ⟨98, by decide +kernel, by decide⟩
  | 2, _ => exact ⟨120, by decide +kernel, by decide⟩
theorem deed_ok (R : Row S r) (f : Fits (w : Int) (h : Int) l) (b : IsBath S i w h (txt l)) : Ho (g__law_deed [.ref r, .ref i] S) (fun v S' => ∃ d : Deed, v = deedW d ∧ d.Ok w h ∧ Row S' r ∧ Fr r S S') noX := by
  have hz2 := sizeLine_big
  have z2 : (2 : Nat) ≤ sizeLine := by omega
  have z3 : (3 : Nat) ≤ sizeLine := by omega
  have s4 : (Str.ofString "abx").length ≤ sizeLine := by decide +kernel
  have w1 := f.w1
  have h1 := f.h1
  have w5 := f.w5
  have h5 := f.h5
  have hl := f.natLen
  have l12 := f.l12
  have lp : 0 < l.length := by
    rw [hl]
    exact Nat.mul_pos (by omega) (by omega)
  unfold g__law_deed
  simp only [ho_ok, ho_ret, ho_bd, ho_bdI, ho_bdO, hos_nx, hos_rt, hos_bk, hos_ct, hos_onx, hos_ort, hos_exS, hos_exT, hos_exA, hos_exI, nxt_nx, nxt_rt, nxt_bk, nxt_ct, hos_seq, hos_asg, fin_nx, fin_rt, ho_body1, ho_body2, ho_body3, ho_body4, ho_meth, ho_bm, ho_prop, ho_if, hos_if, ho_and, ho_or, ho_andT, ho_orT, ho_ite, ho_chain, ret_d, ngW_b, blM_b, truM_b, getSl_0, getSl_s, lstM_d, tupM_d, add_ii, add_ss, sub_ii, mul_ii, fdiv_ii, mod_ii, pow_ii, lt_ii, le_ii, gt_ii, ge_ii, eq_ii, ne_ii, eq_ss, ne_ss, intM_i, lenM_t, ixM_t, seqV_s, seqV_t, partM_i, in_1, List.length_cons, List.length_nil, List.length_singleton, List.map_cons, List.map_nil, List.cons_append, List.nil_append, List.set_cons_zero, List.set_cons_succ, List.replicate_succ, List.replicate_zero, List.append_nil, Nat.reduceAdd, Nat.reduceSub, Nat.zero_add, Nat.sub_self, Nat.reduceEqDiff, Nat.reduceLeDiff, if_true, if_false, ite_true, ite_false, reduceIte, decide_true, decide_false, Bool.not_true, Bool.not_false, true_and, and_true, r__law_deed]
  refine Ho.call (taken_ok R (by decide) (by decide)) ?_
  rintro v S1 ⟨a, rfl, a0, a1, R1, f1, _⟩
  have b1 := b.fr R f1
  by_cases h2 : a < 2
  · simp only [ho_ok, ho_ret, ho_bd, ho_bdI, ho_bdO, hos_nx, hos_rt, hos_bk, hos_ct, hos_onx, hos_ort, hos_exS, hos_exT, hos_exA, hos_exI, nxt_nx, nxt_rt, nxt_bk, nxt_ct, hos_seq, hos_asg, fin_nx, fin_rt, ho_body1, ho_body2, ho_body3, ho_body4, ho_meth, ho_bm, ho_prop, ho_if, hos_if, ho_and, ho_or, ho_andT, ho_orT, ho_ite, ho_chain, ret_d, ngW_b, blM_b, truM_b, getSl_0, getSl_s, lstM_d, tupM_d, add_ii, add_ss, sub_ii, mul_ii, fdiv_ii, mod_ii, pow_ii, lt_ii, le_ii, gt_ii, ge_ii, eq_ii, ne_ii, eq_ss, ne_ss, intM_i, lenM_t, ixM_t, seqV_s, seqV_t, partM_i, in_1, List.length_cons, List.length_nil, List.length_singleton, List.map_cons, List.map_nil, List.cons_append, List.nil_append, List.set_cons_zero, List.set_cons_succ, List.replicate_succ, List.replicate_zero, List.append_nil, Nat.reduceAdd, Nat.reduceSub, Nat.zero_add, Nat.sub_self, Nat.reduceEqDiff, Nat.reduceLeDiff, if_true, if_false, ite_true, ite_false, reduceIte, decide_true, decide_false, Bool.not_true, Bool.not_false, true_and, and_true, h2, len_ok f b1]
    refine Ho.call (taken_ok (m := (l.length : Int)) R1 (by omega) (by omega)) ?_
    rintro v S2 ⟨c, rfl, c0, c1, R2, f2, _⟩
    obtain ⟨c, rfl⟩ : ∃ n : Nat, c = n := ⟨c.toNat, by omega⟩
    try simp only [ho_ok, ho_ret, ho_bd, ho_bdI, ho_bdO, hos_nx, hos_rt, hos_bk, hos_ct, hos_onx, hos_ort, hos_exS, hos_exT, hos_exA, hos_exI, nxt_nx, nxt_rt, nxt_bk, nxt_ct, hos_seq, hos_asg, fin_nx, fin_rt, ho_body1, ho_body2, ho_body3, ho_body4, ho_meth, ho_bm, ho_prop, ho_if, hos_if, ho_and, ho_or, ho_andT, ho_orT, ho_ite, ho_chain, ret_d, ngW_b, blM_b, truM_b, getSl_0, getSl_s, lstM_d, tupM_d, add_ii, add_ss, sub_ii, mul_ii, fdiv_ii, mod_ii, pow_ii, lt_ii, le_ii, gt_ii, ge_ii, eq_ii, ne_ii, eq_ss, ne_ss, intM_i, lenM_t, ixM_t, seqV_s, seqV_t, partM_i, in_1, List.length_cons, List.length_nil, List.length_singleton, List.map_cons, List.map_nil, List.cons_append, List.nil_append, List.set_cons_zero, List.set_cons_succ, List.replicate_succ, List.replicate_zero, List.append_nil, Nat.reduceAdd, Nat.reduceSub, Nat.zero_add, Nat.sub_self, Nat.reduceEqDiff, Nat.reduceLeDiff, if_true, if_false, ite_true, ite_false, reduceIte, decide_true, decide_false, Bool.not_true, Bool.not_false, true_and, and_true]
    refine Ho.call (taken_ok R2 (by decide) (by decide)) ?_
    rintro v S3 ⟨e, rfl, e0, e1, R3, f3, _⟩
    obtain ⟨x, hx, hxs⟩ := abx_in e.toNat (by omega)
    have e1 := atI_n hx
    rw [show ((e.toNat : Nat) : Int) = e by omega] at e1
    simp only [ho_ok, ho_ret, ho_bd, ho_bdI, ho_bdO, hos_nx, hos_rt, hos_bk, hos_ct, hos_onx, hos_ort, hos_exS, hos_exT, hos_exA, hos_exI, nxt_nx, nxt_rt, nxt_bk, nxt_ct, hos_seq, hos_asg, fin_nx, fin_rt, ho_body1, ho_body2, ho_body3, ho_body4, ho_meth, ho_bm, ho_prop, ho_if, hos_if, ho_and, ho_or, ho_andT, ho_orT, ho_ite, ho_chain, ret_d, ngW_b, blM_b, truM_b, getSl_0, getSl_s, lstM_d, tupM_d, add_ii, add_ss, sub_ii, mul_ii, fdiv_ii, mod_ii, pow_ii, lt_ii, le_ii, gt_ii, ge_ii, eq_ii, ne_ii, eq_ss, ne_ss, intM_i, lenM_t, ixM_t, seqV_s, seqV_t, partM_i, in_1, List.length_cons, List.length_nil, List.length_singleton, List.map_cons, List.map_nil, List.cons_append, List.nil_append, List.set_cons_zero, List.set_cons_succ, List.replicate_succ, List.replicate_zero, List.append_nil, Nat.reduceAdd, Nat.reduceSub, Nat.zero_add, Nat.sub_self, Nat.reduceEqDiff, Nat.reduceLeDiff, if_true, if_false, ite_true, ite_false, reduceIte, decide_true, decide_false, Bool.not_true, Bool.not_false, true_and, and_true, ixM_s, e1, s4, z3]
    exact ⟨.drop c x, rfl, ⟨by omega, hxs⟩, R3, (f1.trans f2).trans f3⟩
  · by_cases h3 : a = 2
    · have e3 : decide (a = 2) = true := decide_eq_true h3
      simp only [ho_ok, ho_ret, ho_bd, ho_bdI, ho_bdO, hos_nx, hos_rt, hos_bk, hos_ct, hos_onx, hos_ort, hos_exS, hos_exT, hos_exA, hos_exI, nxt_nx, nxt_rt, nxt_bk, nxt_ct, hos_seq, hos_asg, fin_nx, fin_rt, ho_body1, ho_body2, ho_body3, ho_body4, ho_meth, ho_bm, ho_prop, ho_if, hos_if, ho_and, ho_or, ho_andT, ho_orT, ho_ite, ho_chain, ret_d, ngW_b, blM_b, truM_b, getSl_0, getSl_s, lstM_d, tupM_d, add_ii, add_ss, sub_ii, mul_ii, fdiv_ii, mod_ii, pow_ii, lt_ii, le_ii, gt_ii, ge_ii, eq_ii, ne_ii, eq_ss, ne_ss, intM_i, lenM_t, ixM_t, seqV_s, seqV_t, partM_i, in_1, List.length_cons, List.length_nil, List.length_singleton, List.map_cons, List.map_nil, List.cons_append, List.nil_append, List.set_cons_zero, List.set_cons_succ, List.replicate_succ, List.replicate_zero, List.append_nil, Nat.reduceAdd, Nat.reduceSub, Nat.zero_add, Nat.sub_self, Nat.reduceEqDiff, Nat.reduceLeDiff, if_true, if_false, ite_true, ite_false, reduceIte, decide_true, decide_false, Bool.not_true, Bool.not_false, true_and, and_true, h2, e3, b1.cls, height_ok b1]
      refine Ho.call (strides_ok R1 h (by omega)) ?_
      rintro v S2 ⟨ss, rfl, hs, hs2, R2, f2⟩
      simp only [ho_ok, ho_ret, ho_bd, ho_bdI, ho_bdO, hos_nx, hos_rt, hos_bk, hos_ct, hos_onx, hos_ort, hos_exS, hos_exT, hos_exA, hos_exI, nxt_nx, nxt_rt, nxt_bk, nxt_ct, hos_seq, hos_asg, fin_nx, fin_rt, ho_body1, ho_body2, ho_body3, ho_body4, ho_meth, ho_bm, ho_prop, ho_if, hos_if, ho_and, ho_or, ho_andT, ho_orT, ho_ite, ho_chain, ret_d, ngW_b, blM_b, truM_b, getSl_0, getSl_s, lstM_d, tupM_d, add_ii, add_ss, sub_ii, mul_ii, fdiv_ii, mod_ii, pow_ii, lt_ii, le_ii, gt_ii, ge_ii, eq_ii, ne_ii, eq_ss, ne_ss, intM_i, lenM_t, ixM_t, seqV_s, seqV_t, partM_i, in_1, List.length_cons, List.length_nil, List.length_singleton, List.map_cons, List.map_nil, List.cons_append, List.nil_append, List.set_cons_zero, List.set_cons_succ, List.replicate_succ, List.replicate_zero, List.append_nil, Nat.reduceAdd, Nat.reduceSub, Nat.zero_add, Nat.sub_self, Nat.reduceEqDiff, Nat.reduceLeDiff, if_true, if_false, ite_true, ite_false, reduceIte, decide_true, decide_false, Bool.not_true, Bool.not_false, true_and, and_true, z2]
      exact ⟨.rake ss, rfl, ⟨hs, hs2⟩, R2, f1.trans f2⟩
    · by_cases h4 : a = 3
      · have e4 : decide (a = 3) = true := decide_eq_true h4
        simp only [ho_ok, ho_ret, ho_bd, ho_bdI, ho_bdO, hos_nx, hos_rt, hos_bk, hos_ct, hos_onx, hos_ort, hos_exS, hos_exT, hos_exA, hos_exI, nxt_nx, nxt_rt, nxt_bk, nxt_ct, hos_seq, hos_asg, fin_nx, fin_rt, ho_body1, ho_body2, ho_body3, ho_body4, ho_meth, ho_bm, ho_prop, ho_if, hos_if, ho_and, ho_or, ho_andT, ho_orT, ho_ite, ho_chain, ret_d, ngW_b, blM_b, truM_b, getSl_0, getSl_s, lstM_d, tupM_d, add_ii, add_ss, sub_ii, mul_ii, fdiv_ii, mod_ii, pow_ii, lt_ii, le_ii, gt_ii, ge_ii, eq_ii, ne_ii, eq_ss, ne_ss, intM_i, lenM_t, ixM_t, seqV_s, seqV_t, partM_i, in_1, List.length_cons, List.length_nil, List.length_singleton, List.map_cons, List.map_nil, List.cons_append, List.nil_append, List.set_cons_zero, List.set_cons_succ, List.replicate_succ, List.replicate_zero, List.append_nil, Nat.reduceAdd, Nat.reduceSub, Nat.zero_add, Nat.sub_self, Nat.reduceEqDiff, Nat.reduceLeDiff, if_true, if_false, ite_true, ite_false, reduceIte, decide_true, decide_false, Bool.not_true, Bool.not_false, true_and, and_true, h2, h3, e4, b1.cls, width_ok b1]
        refine Ho.call (strides_ok R1 w (by omega)) ?_
        rintro v S2 ⟨ss, rfl, hs, hs2, R2, f2⟩
        simp only [ho_ok, ho_ret, ho_bd, ho_bdI, ho_bdO, hos_nx, hos_rt, hos_bk, hos_ct, hos_onx, hos_ort, hos_exS, hos_exT, hos_exA, hos_exI, nxt_nx, nxt_rt, nxt_bk, nxt_ct, hos_seq, hos_asg, fin_nx, fin_rt, ho_body1, ho_body2, ho_body3, ho_body4, ho_meth, ho_bm, ho_prop, ho_if, hos_if, ho_and, ho_or, ho_andT, ho_orT, ho_ite, ho_chain, ret_d, ngW_b, blM_b, truM_b, getSl_0, getSl_s, lstM_d, tupM_d, add_ii, add_ss, sub_ii, mul_ii, fdiv_ii, mod_ii, pow_ii, lt_ii, le_ii, gt_ii, ge_ii, eq_ii, ne_ii, eq_ss, ne_ss, intM_i, lenM_t, ixM_t, seqV_s, seqV_t, partM_i, in_1, List.length_cons, List.length_nil, List.length_singleton, List.map_cons, List.map_nil, List.cons_append, List.nil_append, List.set_cons_zero, List.set_cons_succ, List.replicate_succ, List.replicate_zero, List.append_nil, Nat.reduceAdd, Nat.reduceSub, Nat.zero_add, Nat.sub_self, Nat.reduceEqDiff, Nat.reduceLeDiff, if_true, if_false, ite_true, ite_false, reduceIte, decide_true, decide_false, Bool.not_true, Bool.not_false, true_and, and_true, z2]
        exact ⟨.comb ss, rfl, ⟨hs, hs2⟩, R2, f1.trans f2⟩
      · simp only [ho_ok, ho_ret, ho_bd, ho_bdI, ho_bdO, hos_nx, hos_rt, hos_bk, hos_ct, hos_onx, hos_ort, hos_exS, hos_exT, hos_exA, hos_exI, nxt_nx, nxt_rt, nxt_bk, nxt_ct, hos_seq, hos_asg, fin_nx, fin_rt, ho_body1, ho_body2, ho_body3, ho_body4, ho_meth, ho_bm, ho_prop, ho_if, hos_if, ho_and, ho_or, ho_andT, ho_orT, ho_ite, ho_chain, ret_d, ngW_b, blM_b, truM_b, getSl_0, getSl_s, lstM_d, tupM_d, add_ii, add_ss, sub_ii, mul_ii, fdiv_ii, mod_ii, pow_ii, lt_ii, le_ii, gt_ii, ge_ii, eq_ii, ne_ii, eq_ss, ne_ss, intM_i, lenM_t, ixM_t, seqV_s, seqV_t, partM_i, in_1, List.length_cons, List.length_nil, List.length_singleton, List.map_cons, List.map_nil, List.cons_append, List.nil_append, List.set_cons_zero, List.set_cons_succ, List.replicate_succ, List.replicate_zero, List.append_nil, Nat.reduceAdd, Nat.reduceSub, Nat.zero_add, Nat.sub_self, Nat.reduceEqDiff, Nat.reduceLeDiff, if_true, if_false, ite_true, ite_false, reduceIte, decide_true, decide_false, Bool.not_true, Bool.not_false, true_and, and_true, h2, h3, h4, len_ok f b1]
        refine Ho.call (some_ok R1 l.length lp l12) ?_
        rintro v S2 ⟨cs, rfl, c0, c1, c2, c3, R2, f2⟩
        simp only [ho_ok, ho_ret, ho_bd, ho_bdI, ho_bdO, hos_nx, hos_rt, hos_bk, hos_ct, hos_onx, hos_ort, hos_exS, hos_exT, hos_exA, hos_exI, nxt_nx, nxt_rt, nxt_bk, nxt_ct, hos_seq, hos_asg, fin_nx, fin_rt, ho_body1, ho_body2, ho_body3, ho_body4, ho_meth, ho_bm, ho_prop, ho_if, hos_if, ho_and, ho_or, ho_andT, ho_orT, ho_ite, ho_chain, ret_d, ngW_b, blM_b, truM_b, getSl_0, getSl_s, lstM_d, tupM_d, add_ii, add_ss, sub_ii, mul_ii, fdiv_ii, mod_ii, pow_ii, lt_ii, le_ii, gt_ii, ge_ii, eq_ii, ne_ii, eq_ss, ne_ss, intM_i, lenM_t, ixM_t, seqV_s, seqV_t, partM_i, in_1, List.length_cons, List.length_nil, List.length_singleton, List.map_cons, List.map_nil, List.cons_append, List.nil_append, List.set_cons_zero, List.set_cons_succ, List.replicate_succ, List.replicate_zero, List.append_nil, Nat.reduceAdd, Nat.reduceSub, Nat.zero_add, Nat.sub_self, Nat.reduceEqDiff, Nat.reduceLeDiff, if_true, if_false, ite_true, ite_false, reduceIte, decide_true, decide_false, Bool.not_true, Bool.not_false, true_and, and_true, z2]
        exact ⟨.paper cs, rfl, ⟨c0, c1, fun c hc => by rw [← hl]; exact c2 c hc, by omega⟩, R2, f1.trans f2⟩
/-- what lies behind a deed, as far as cell n -/
def aftTo (w h : Nat) (d : Deed) (fr : W) (xs : List W) (n : Nat) : List W := (List.range (w * h)).map fun x => if x < n then (match whence w h d x with | none => fr | some y => xs.getD y .non) else xs.getD x .non
theorem aftTo_0 {d : Deed} {fr : W} {xs : List W} (h1 : xs.length = w * h) : aftTo w h d fr xs 0 = xs := by
  unfold aftTo
  apply List.ext_getElem?
  intro j
  by_cases hj : j < w * h
  · rw [List.getElem?_map, List.getElem?_range hj, getD_W (by omega : j < xs.length)]
    rfl
  · rw [List.getElem?_eq_none (by simpa using hj), List.getElem?_eq_none (by omega)]
theorem aftTo_all {d : Deed} {fr : W} {xs : List W} : aftTo w h d fr xs (w * h) = aft w h d fr xs := by
  unfold aftTo aft
  apply List.map_congr_left
  intro x hx
  rw [if_pos (List.mem_range.mp hx)]
  all_goals (cases whence w h d x <;> rfl)
theorem aftTo_len {d : Deed} {fr : W} {xs : List W} {n : Nat} : (aftTo w h d fr xs n).length = w * h := by simp [aftTo]
theorem aftTo_set {d : Deed} {fr : W} {xs : List W} {n : Nat} {v : W} (hn : n < w * h) (hv : v = (match whence w h d n with | none => fr | some y => xs.getD y .non)) : (aftTo w h d fr xs n).set n v = aftTo w h d fr xs (n + 1) := by
  apply List.ext_getElem?
  intro j
  by_cases hj : j < w * h
  · rw [List.getElem?_set]
    by_cases e : n = j
    · subst e
      rw [if_pos rfl, if_pos (by rw [aftTo_len]; exact hn), hv]
      unfold aftTo
      rw [List.getElem?_map, List.getElem?_range hj]
      simp
    · rw [if_neg e]
      unfold aftTo
      rw [List.getElem?_map, List.getElem?_map, List.getElem?_range hj]
      simp only [Option.map_some]
      by_cases q : j < n
      · rw [if_pos q, if_pos (by omega)]
      · rw [if_neg q, if_neg (by omega)]
  · rw [List.getElem?_eq_none (by rw [List.length_set, aftTo_len]; omega), List.getElem?_eq_none (by rw [aftTo_len]; omega)]
theorem aftTo_stay {d : Deed} {fr : W} {xs : List W} {n : Nat} (hn : n < w * h) (hv : whence w h d n = some n) : aftTo w h d fr xs (n + 1) = aftTo w h d fr xs n := by
  unfold aftTo
  apply List.map_congr_left
  intro x hx
  by_cases e : x = n
  · subst e
    rw [if_pos (by omega), if_neg (by omega), hv]
  · by_cases q : x < n
    · rw [if_pos q, if_pos (by omega)]
    · rw [if_neg q, if_neg (by omega)]
theorem xat {xs : List W} {y : Nat} (h : y < xs.length) : atI xs (y : Int) = some (xs.getD y .non) := atI_n (getD_W h)
theorem behind_ok (f : Fits (w : Int) (h : Int) l) (b : IsBath S i w h (txt l)) {d : Deed} (ok : d.Ok w h) {t : Nat} {xs : List W} (ht : S[t]? = some (.lst xs)) (hx : xs.length = w * h) (fr : W) :
    Ho (g__law_behind [.ref i, .ref t, deedW d, fr] S) (fun v S' => ∃ j, v = .ref j ∧ S <+: S' ∧ S.length ≤ j ∧ S'[j]? = some (.lst (aft w h d fr xs))) noX := by
  have w1 := f.w1
  have w5 := f.w5
  have h1 := f.h1
  have h5 := f.h5
  have hl := f.natLen
  have l12 := f.l12
  have hw : 0 < w := by omega
  have hh : 0 < h := by omega
  have hs := seq_lst ht
  have d1 : (0 : Int) < (w : Int) := by omega
  have d2 : (w : Int) < 1152921504606846976 := by omega
  have d3 : (0 : Int) < (h : Int) := by omega
  have sm := fun y => small_nat2 (n := w) (by omega) y
  have sm2 := fun y => small_nat2 (n := h) (by omega) y
  have eM : (w : Int) * (h : Int) = ((w * h : Nat) : Int) := by rw [Int.natCast_mul]
  have rb : -(2 ^ 62) ≤ ((w * h : Nat) : Int) ∧ ((w * h : Nat) : Int) < 2 ^ 62 := ⟨by omega, by omega⟩
  unfold g__law_behind
  simp only [ho_ok, ho_ret, ho_bd, ho_bdI, ho_bdO, hos_nx, hos_rt, hos_bk, hos_ct, hos_onx, hos_ort, hos_exS, hos_exT, hos_exA, hos_exI, nxt_nx, nxt_rt, nxt_bk, nxt_ct, hos_seq, hos_asg, fin_nx, fin_rt, ho_body1, ho_body2, ho_body3, ho_body4, ho_meth, ho_bm, ho_prop, ho_if, hos_if, ho_and, ho_or, ho_andT, ho_orT, ho_ite, ho_chain, ret_d, ngW_b, blM_b, truM_b, getSl_0, getSl_s, lstM_d, tupM_d, add_ii, add_ss, sub_ii, mul_ii, fdiv_ii, mod_ii, pow_ii, lt_ii, le_ii, gt_ii, ge_ii, eq_ii, ne_ii, eq_ss, ne_ss, intM_i, lenM_t, ixM_t, seqV_s, seqV_t, partM_i, in_1, List.length_cons, List.length_nil, List.length_singleton, List.map_cons, List.map_nil, List.cons_append, List.nil_append, List.set_cons_zero, List.set_cons_succ, List.replicate_succ, List.replicate_zero, List.append_nil, Nat.reduceAdd, Nat.reduceSub, Nat.zero_add, Nat.sub_self, Nat.reduceEqDiff, Nat.reduceLeDiff, if_true, if_false, ite_true, ite_false, reduceIte, decide_true, decide_false, Bool.not_true, Bool.not_false, true_and, and_true, r__law_behind, b.cls, width_ok b, height_ok b, listM_r hs, parM, List.zip_cons_cons, List.zip_nil_right, List.zip_nil_left, List.foldl_cons, List.foldl_nil, sm2, eM, rng1_i, rb]
  refine hos_for (ws := (List.range ((w * h : Nat) : Int).toNat).map fun (n : Nat) => W.int n) (fun n sl S' => (∃ x7 x8 x9 x10, sl = [some (.ref i), some (.ref t), some (deedW d), some fr, some (.int (w : Int)), some (.int (h : Int)), some (.ref S.length), x7, x8, x9, x10]) ∧ S <+: S' ∧ S'[S.length]? = some (.lst (aftTo w h d fr xs n))) ⟨⟨_, _, _, _, rfl⟩, pre1, by rw [get_last, aftTo_0 hx]⟩ (fun _ _ _ _ => rfl) (fun n u sl' S' hw1 hp => ?_) fun sl' S' hp => ?_
  · obtain ⟨⟨x7, x8, x9, x10, rfl⟩, p, hf⟩ := hp
    obtain ⟨hn, rfl⟩ := rng_at hw1
    have ht' := seq_lst (Ext.get p ht)
    have st := fun v => setIx_l (v := v) (n := (n : Int)) (j := n) hf (ixN_at (by rw [aftTo_len]; exact hn))
    have fin : ∀ v, v = (match whence w h d n with | none => fr | some y => xs.getD y .non) → S <+: S'.set S.length (.lst ((aftTo w h d fr xs n).set n v)) ∧ (S'.set S.length (.lst ((aftTo w h d fr xs n).set n v)))[S.length]? = some (.lst (aftTo w h d fr xs (n + 1))) := fun v hv => ⟨pre_put p, by rw [set_get hf, aftTo_set hn hv]⟩
    have k0 := deed0 (S := S') d
    have hr := row_of hw hn
    have hm := Nat.mod_lt n hw
    cases d with
    | rake ss =>
      have q1 : decide (kindS (.rake ss) = Str.ofString "rake") = true := (show decide (Str.ofString "rake" = Str.ofString "rake") = true by decide +kernel)
      have a1 : ixM (deedW (.rake ss)) (.int 1) S' = .ok (.tup (ss.map W.int)) S' := rfl
      have hst := strideAt (ss := ss) (k := n / w) (by rw [ok.1]; exact hr)
      have es : ((n / w : Nat) : Int) * (w : Int) + (((n % w : Nat) : Int) - ss.getD (n / w) 0) % (w : Int) = ((n / w * w + pl w ((n % w : Nat) : Int) (ss.getD (n / w) 0) : Nat) : Int) := by
        rw [Int.natCast_add, Int.natCast_mul, pl_int hw]
      have wl := whence_lt hw hh ok hn (y := n / w * w + pl w ((n % w : Nat) : Int) (ss.getD (n / w) 0)) rfl
      have at1 := xat (xs := xs) (by rw [hx]; exact wl)
      simp only [ho_ok, ho_ret, ho_bd, ho_bdI, ho_bdO, hos_nx, hos_rt, hos_bk, hos_ct, hos_onx, hos_ort, hos_exS, hos_exT, hos_exA, hos_exI, nxt_nx, nxt_rt, nxt_bk, nxt_ct, hos_seq, hos_asg, fin_nx, fin_rt, ho_body1, ho_body2, ho_body3, ho_body4, ho_meth, ho_bm, ho_prop, ho_if, hos_if, ho_and, ho_or, ho_andT, ho_orT, ho_ite, ho_chain, ret_d, ngW_b, blM_b, truM_b, getSl_0, getSl_s, lstM_d, tupM_d, add_ii, add_ss, sub_ii, mul_ii, fdiv_ii, mod_ii, pow_ii, lt_ii, le_ii, gt_ii, ge_ii, eq_ii, ne_ii, eq_ss, ne_ss, intM_i, lenM_t, ixM_t, seqV_s, seqV_t, partM_i, in_1, List.length_cons, List.length_nil, List.length_singleton, List.map_cons, List.map_nil, List.cons_append, List.nil_append, List.set_cons_zero, List.set_cons_succ, List.replicate_succ, List.replicate_zero, List.append_nil, Nat.reduceAdd, Nat.reduceSub, Nat.zero_add, Nat.sub_self, Nat.reduceEqDiff, Nat.reduceLeDiff, if_true, if_false, ite_true, ite_false, reduceIte, decide_true, decide_false, Bool.not_true, Bool.not_false, true_and, and_true, stp_nx, mod_nat, div_cast, d1, d2, sm, parM, List.zip_cons_cons, List.zip_nil_right, List.zip_nil_left, List.foldl_cons, List.foldl_nil, k0, q1, a1, hst, es, ixM_r _ ht', at1, st]
      exact ⟨⟨_, _, _, _, rfl⟩, fin _ rfl⟩
    | comb ss =>
      have q1 : decide (kindS (.comb ss) = Str.ofString "rake") = false := (show decide (Str.ofString "comb" = Str.ofString "rake") = false by decide +kernel)
      have q2 : decide (kindS (.comb ss) = Str.ofString "comb") = true := (show decide (Str.ofString "comb" = Str.ofString "comb") = true by decide +kernel)
      have a1 : ixM (deedW (.comb ss)) (.int 1) S' = .ok (.tup (ss.map W.int)) S' := rfl
      have hst := strideAt (ss := ss) (k := n % w) (by rw [ok.1]; exact hm)
      have es : (((n / w : Nat) : Int) - ss.getD (n % w) 0) % (h : Int) * (w : Int) + ((n % w : Nat) : Int) = ((pl h ((n / w : Nat) : Int) (ss.getD (n % w) 0) * w + n % w : Nat) : Int) := by
        rw [Int.natCast_add, Int.natCast_mul, pl_int hh]
      have wl := whence_lt hw hh ok hn (y := pl h ((n / w : Nat) : Int) (ss.getD (n % w) 0) * w + n % w) rfl
      have at1 := xat (xs := xs) (by rw [hx]; exact wl)
      simp only [ho_ok, ho_ret, ho_bd, ho_bdI, ho_bdO, hos_nx, hos_rt, hos_bk, hos_ct, hos_onx, hos_ort, hos_exS, hos_exT, hos_exA, hos_exI, nxt_nx, nxt_rt, nxt_bk, nxt_ct, hos_seq, hos_asg, fin_nx, fin_rt, ho_body1, ho_body2, ho_body3, ho_body4, ho_meth, ho_bm, ho_prop, ho_if, hos_if, ho_and, ho_or, ho_andT, ho_orT, ho_ite, ho_chain, ret_d, ngW_b, blM_b, truM_b, getSl_0, getSl_s, lstM_d, tupM_d, add_ii, add_ss, sub_ii, mul_ii, fdiv_ii, mod_ii, pow_ii, lt_ii, le_ii, gt_ii, ge_ii, eq_ii, ne_ii, eq_ss, ne_ss, intM_i, lenM_t, ixM_t, seqV_s, seqV_t, partM_i, in_1, List.length_cons, List.length_nil, List.length_singleton, List.map_cons, List.map_nil, List.cons_append, List.nil_append, List.set_cons_zero, List.set_cons_succ, List.replicate_succ, List.replicate_zero, List.append_nil, Nat.reduceAdd, Nat.reduceSub, Nat.zero_add, Nat.sub_self, Nat.reduceEqDiff, Nat.reduceLeDiff, if_true, if_false, ite_true, ite_false, reduceIte, decide_true, decide_false, Bool.not_true, Bool.not_false, true_and, and_true, stp_nx, mod_nat, div_cast, d1, d2, d3, sm, parM, List.zip_cons_cons, List.zip_nil_right, List.zip_nil_left, List.foldl_cons, List.foldl_nil, k0, q1, q2, a1, hst, es, ixM_r _ ht', at1, st]
      exact ⟨⟨_, _, _, _, rfl⟩, fin _ rfl⟩
    | paper cs =>
      have q1 : decide (kindS (.paper cs) = Str.ofString "rake") = false := (show decide (Str.ofString "paper" = Str.ofString "rake") = false by decide +kernel)
      have q2 : decide (kindS (.paper cs) = Str.ofString "comb") = false := (show decide (Str.ofString "paper" = Str.ofString "comb") = false by decide +kernel)
      have q3 : decide (kindS (.paper cs) = Str.ofString "paper") = true := (show decide (Str.ofString "paper" = Str.ofString "paper") = true by decide +kernel)
      have a1 : ixM (deedW (.paper cs)) (.int 1) S' = .ok (.tup (nums cs)) S' := rfl
      have at1 := xat (xs := xs) (y := n) (by rw [hx]; exact hn)
      by_cases hc : n ∈ cs
      · have dc : decide (n ∈ cs) = true := decide_eq_true hc
        simp only [ho_ok, ho_ret, ho_bd, ho_bdI, ho_bdO, hos_nx, hos_rt, hos_bk, hos_ct, hos_onx, hos_ort, hos_exS, hos_exT, hos_exA, hos_exI, nxt_nx, nxt_rt, nxt_bk, nxt_ct, hos_seq, hos_asg, fin_nx, fin_rt, ho_body1, ho_body2, ho_body3, ho_body4, ho_meth, ho_bm, ho_prop, ho_if, hos_if, ho_and, ho_or, ho_andT, ho_orT, ho_ite, ho_chain, ret_d, ngW_b, blM_b, truM_b, getSl_0, getSl_s, lstM_d, tupM_d, add_ii, add_ss, sub_ii, mul_ii, fdiv_ii, mod_ii, pow_ii, lt_ii, le_ii, gt_ii, ge_ii, eq_ii, ne_ii, eq_ss, ne_ss, intM_i, lenM_t, ixM_t, seqV_s, seqV_t, partM_i, in_1, List.length_cons, List.length_nil, List.length_singleton, List.map_cons, List.map_nil, List.cons_append, List.nil_append, List.set_cons_zero, List.set_cons_succ, List.replicate_succ, List.replicate_zero, List.append_nil, Nat.reduceAdd, Nat.reduceSub, Nat.zero_add, Nat.sub_self, Nat.reduceEqDiff, Nat.reduceLeDiff, if_true, if_false, ite_true, ite_false, reduceIte, decide_true, decide_false, Bool.not_true, Bool.not_false, true_and, and_true, stp_nx, mod_nat, div_cast, d1, d2, d3, sm, parM, List.zip_cons_cons, List.zip_nil_right, List.zip_nil_left, List.foldl_cons, List.foldl_nil, k0, q1, q2, q3, a1, nums_in, dc, st]
        exact ⟨⟨_, _, _, _, rfl⟩, fin _ (by rw [whence_paper, if_pos hc])⟩
      · have dc : decide (n ∈ cs) = false := decide_eq_false hc
        simp only [ho_ok, ho_ret, ho_bd, ho_bdI, ho_bdO, hos_nx, hos_rt, hos_bk, hos_ct, hos_onx, hos_ort, hos_exS, hos_exT, hos_exA, hos_exI, nxt_nx, nxt_rt, nxt_bk, nxt_ct, hos_seq, hos_asg, fin_nx, fin_rt, ho_body1, ho_body2, ho_body3, ho_body4, ho_meth, ho_bm, ho_prop, ho_if, hos_if, ho_and, ho_or, ho_andT, ho_orT, ho_ite, ho_chain, ret_d, ngW_b, blM_b, truM_b, getSl_0, getSl_s, lstM_d, tupM_d, add_ii, add_ss, sub_ii, mul_ii, fdiv_ii, mod_ii, pow_ii, lt_ii, le_ii, gt_ii, ge_ii, eq_ii, ne_ii, eq_ss, ne_ss, intM_i, lenM_t, ixM_t, seqV_s, seqV_t, partM_i, in_1, List.length_cons, List.length_nil, List.length_singleton, List.map_cons, List.map_nil, List.cons_append, List.nil_append, List.set_cons_zero, List.set_cons_succ, List.replicate_succ, List.replicate_zero, List.append_nil, Nat.reduceAdd, Nat.reduceSub, Nat.zero_add, Nat.sub_self, Nat.reduceEqDiff, Nat.reduceLeDiff, if_true, if_false, ite_true, ite_false, reduceIte, decide_true, decide_false, Bool.not_true, Bool.not_false, true_and, and_true, stp_nx, mod_nat, div_cast, d1, d2, d3, sm, parM, List.zip_cons_cons, List.zip_nil_right, List.zip_nil_left, List.foldl_cons, List.foldl_nil, k0, q1, q2, q3, a1, nums_in, dc, ixM_r _ ht', at1, st]
        exact ⟨⟨_, _, _, _, rfl⟩, fin _ (by rw [whence_paper, if_neg hc])⟩
    | drop c z =>
      have q1 : decide (kindS (.drop c z) = Str.ofString "rake") = false := (show decide (Str.ofString "drop" = Str.ofString "rake") = false by decide +kernel)
      have q2 : decide (kindS (.drop c z) = Str.ofString "comb") = false := (show decide (Str.ofString "drop" = Str.ofString "comb") = false by decide +kernel)
      have q3 : decide (kindS (.drop c z) = Str.ofString "paper") = false := (show decide (Str.ofString "drop" = Str.ofString "paper") = false by decide +kernel)
      have a1 : ixM (deedW (.drop c z)) (.int 1) S' = .ok (.int (c : Nat)) S' := rfl
      by_cases hc : n = c
      · have dc : decide ((n : Int) = (c : Int)) = true := decide_eq_true (by omega)
        simp only [ho_ok, ho_ret, ho_bd, ho_bdI, ho_bdO, hos_nx, hos_rt, hos_bk, hos_ct, hos_onx, hos_ort, hos_exS, hos_exT, hos_exA, hos_exI, nxt_nx, nxt_rt, nxt_bk, nxt_ct, hos_seq, hos_asg, fin_nx, fin_rt, ho_body1, ho_body2, ho_body3, ho_body4, ho_meth, ho_bm, ho_prop, ho_if, hos_if, ho_and, ho_or, ho_andT, ho_orT, ho_ite, ho_chain, ret_d, ngW_b, blM_b, truM_b, getSl_0, getSl_s, lstM_d, tupM_d, add_ii, add_ss, sub_ii, mul_ii, fdiv_ii, mod_ii, pow_ii, lt_ii, le_ii, gt_ii, ge_ii, eq_ii, ne_ii, eq_ss, ne_ss, intM_i, lenM_t, ixM_t, seqV_s, seqV_t, partM_i, in_1, List.length_cons, List.length_nil, List.length_singleton, List.map_cons, List.map_nil, List.cons_append, List.nil_append, List.set_cons_zero, List.set_cons_succ, List.replicate_succ, List.replicate_zero, List.append_nil, Nat.reduceAdd, Nat.reduceSub, Nat.zero_add, Nat.sub_self, Nat.reduceEqDiff, Nat.reduceLeDiff, if_true, if_false, ite_true, ite_false, reduceIte, decide_true, decide_false, Bool.not_true, Bool.not_false, true_and, and_true, stp_nx, mod_nat, div_cast, d1, d2, d3, sm, parM, List.zip_cons_cons, List.zip_nil_right, List.zip_nil_left, List.foldl_cons, List.foldl_nil, k0, q1, q2, q3, a1, dc, st]
        exact ⟨⟨_, _, _, _, rfl⟩, fin _ (by rw [whence_drop, if_pos hc])⟩
      · have dc : decide ((n : Int) = (c : Int)) = false := decide_eq_false (by omega)
        have wl := fun y => whence_lt (y := y) hw hh ok hn
        rw [whence_drop, if_neg hc] at wl
        by_cases hrw : n / w = c / w
        · have dr : decide (((n / w : Nat) : Int) = ((c / w : Nat) : Int)) = true := decide_eq_true (by omega)
          rw [if_pos hrw] at wl
          by_cases hlt : n < c
          · have dl : ((n : Nat) : Int) < ((c : Nat) : Int) := by omega
            rw [if_pos hlt] at wl
            have at1 := xat (xs := xs) (y := n + 1) (by rw [hx]; exact wl _ rfl)
            rw [Int.natCast_add] at at1
            have at1 : atI xs ((n : Int) + 1) = _ := at1
            simp only [ho_ok, ho_ret, ho_bd, ho_bdI, ho_bdO, hos_nx, hos_rt, hos_bk, hos_ct, hos_onx, hos_ort, hos_exS, hos_exT, hos_exA, hos_exI, nxt_nx, nxt_rt, nxt_bk, nxt_ct, hos_seq, hos_asg, fin_nx, fin_rt, ho_body1, ho_body2, ho_body3, ho_body4, ho_meth, ho_bm, ho_prop, ho_if, hos_if, ho_and, ho_or, ho_andT, ho_orT, ho_ite, ho_chain, ret_d, ngW_b, blM_b, truM_b, getSl_0, getSl_s, lstM_d, tupM_d, add_ii, add_ss, sub_ii, mul_ii, fdiv_ii, mod_ii, pow_ii, lt_ii, le_ii, gt_ii, ge_ii, eq_ii, ne_ii, eq_ss, ne_ss, intM_i, lenM_t, ixM_t, seqV_s, seqV_t, partM_i, in_1, List.length_cons, List.length_nil, List.length_singleton, List.map_cons, List.map_nil, List.cons_append, List.nil_append, List.set_cons_zero, List.set_cons_succ, List.replicate_succ, List.replicate_zero, List.append_nil, Nat.reduceAdd, Nat.reduceSub, Nat.zero_add, Nat.sub_self, Nat.reduceEqDiff, Nat.reduceLeDiff, if_true, if_false, ite_true, ite_false, reduceIte, decide_true, decide_false, Bool.not_true, Bool.not_false, true_and, and_true, stp_nx, mod_nat, div_cast, d1, d2, d3, sm, parM, List.zip_cons_cons, List.zip_nil_right, List.zip_nil_left, List.foldl_cons, List.foldl_nil, k0, q1, q2, q3, a1, dc, dr, dl, ixM_r _ ht', at1, st]
            exact ⟨⟨_, _, _, _, rfl⟩, fin _ (by rw [whence_drop, if_neg hc, if_pos hrw, if_pos hlt])⟩
          · have dl : ¬ ((n : Nat) : Int) < ((c : Nat) : Int) := by omega
            rw [if_neg hlt] at wl
            have at1 := xat (xs := xs) (y := n - 1) (by rw [hx]; exact wl _ rfl)
            have en : ((n - 1 : Nat) : Int) = (n : Int) - 1 := by omega
            rw [en] at at1
            simp only [ho_ok, ho_ret, ho_bd, ho_bdI, ho_bdO, hos_nx, hos_rt, hos_bk, hos_ct, hos_onx, hos_ort, hos_exS, hos_exT, hos_exA, hos_exI, nxt_nx, nxt_rt, nxt_bk, nxt_ct, hos_seq, hos_asg, fin_nx, fin_rt, ho_body1, ho_body2, ho_body3, ho_body4, ho_meth, ho_bm, ho_prop, ho_if, hos_if, ho_and, ho_or, ho_andT, ho_orT, ho_ite, ho_chain, ret_d, ngW_b, blM_b, truM_b, getSl_0, getSl_s, lstM_d, tupM_d, add_ii, add_ss, sub_ii, mul_ii, fdiv_ii, mod_ii, pow_ii, lt_ii, le_ii, gt_ii, ge_ii, eq_ii, ne_ii, eq_ss, ne_ss, intM_i, lenM_t, ixM_t, seqV_s, seqV_t, partM_i, in_1, List.length_cons, List.length_nil, List.length_singleton, List.map_cons, List.map_nil, List.cons_append, List.nil_append, List.set_cons_zero, List.set_cons_succ, List.replicate_succ, List.replicate_zero, List.append_nil, Nat.reduceAdd, Nat.reduceSub, Nat.zero_add, Nat.sub_self, Nat.reduceEqDiff, Nat.reduceLeDiff, if_true, if_false, ite_true, ite_false, reduceIte, decide_true, decide_false, Bool.not_true, Bool.not_false, true_and, and_true, stp_nx, mod_nat, div_cast, d1, d2, d3, sm, parM, List.zip_cons_cons, List.zip_nil_right, List.zip_nil_left, List.foldl_cons, List.foldl_nil, k0, q1, q2, q3, a1, dc, dr, dl, ixM_r _ ht', at1, st]
            exact ⟨⟨_, _, _, _, rfl⟩, fin _ (by rw [whence_drop, if_neg hc, if_pos hrw, if_neg hlt])⟩
        · have dr : decide (((n / w : Nat) : Int) = ((c / w : Nat) : Int)) = false := decide_eq_false (by omega)
          rw [if_neg hrw] at wl
          by_cases hcl : n % w = c % w
          · have dm : decide (((n % w : Nat) : Int) = ((c % w : Nat) : Int)) = true := decide_eq_true (by omega)
            rw [if_pos hcl] at wl
            by_cases hlt : n < c
            · have dl : ((n : Nat) : Int) < ((c : Nat) : Int) := by omega
              rw [if_pos hlt] at wl
              have at1 := xat (xs := xs) (y := n + w) (by rw [hx]; exact wl _ rfl)
              rw [Int.natCast_add] at at1
              simp only [ho_ok, ho_ret, ho_bd, ho_bdI, ho_bdO, hos_nx, hos_rt, hos_bk, hos_ct, hos_onx, hos_ort, hos_exS, hos_exT, hos_exA, hos_exI, nxt_nx, nxt_rt, nxt_bk, nxt_ct, hos_seq, hos_asg, fin_nx, fin_rt, ho_body1, ho_body2, ho_body3, ho_body4, ho_meth, ho_bm, ho_prop, ho_if, hos_if, ho_and, ho_or, ho_andT, ho_orT, ho_ite, ho_chain, ret_d, ngW_b, blM_b, truM_b, getSl_0, getSl_s, lstM_d, tupM_d, add_ii, add_ss, sub_ii, mul_ii, fdiv_ii, mod_ii, pow_ii, lt_ii, le_ii, gt_ii, ge_ii, eq_ii, ne_ii, eq_ss, ne_ss, intM_i, lenM_t, ixM_t, seqV_s, seqV_t, partM_i, in_1, List.length_cons, List.length_nil, List.length_singleton, List.map_cons, List.map_nil, List.cons_append, List.nil_append, List.set_cons_zero, List.set_cons_succ, List.replicate_succ, List.replicate_zero, List.append_nil, Nat.reduceAdd, Nat.reduceSub, Nat.zero_add, Nat.sub_self, Nat.reduceEqDiff, Nat.reduceLeDiff, if_true, if_false, ite_true, ite_false, reduceIte, decide_true, decide_false, Bool.not_true, Bool.not_false, true_and, and_true, stp_nx, mod_nat, div_cast, d1, d2, d3, sm, parM, List.zip_cons_cons, List.zip_nil_right, List.zip_nil_left, List.foldl_cons, List.foldl_nil, k0, q1, q2, q3, a1, dc, dr, dm, dl, ixM_r _ ht', at1, st]
              exact ⟨⟨_, _, _, _, rfl⟩, fin _ (by rw [whence_drop, if_neg hc, if_neg hrw, if_pos hcl, if_pos hlt])⟩
            · have dl : ¬ ((n : Nat) : Int) < ((c : Nat) : Int) := by omega
              rw [if_neg hlt] at wl
              have at1 := xat (xs := xs) (y := n - w) (by rw [hx]; exact wl _ rfl)
              have hge : w ≤ n := by
                have e1 := Nat.div_add_mod' n w
                have e2 := Nat.div_add_mod' c w
                rcases Nat.lt_or_ge (n / w) (c / w) with q | q
                · have := Nat.mul_le_mul_right w q
                  rw [Nat.succ_mul] at this
                  omega
                · have : 1 ≤ n / w := Nat.lt_of_le_of_lt (Nat.zero_le (c / w)) (Nat.lt_of_le_of_ne q (Ne.symm hrw))
                  have := Nat.mul_le_mul_right w this
                  omega
              have en : ((n - w : Nat) : Int) = (n : Int) - (w : Int) := by omega
              rw [en] at at1
              simp only [ho_ok, ho_ret, ho_bd, ho_bdI, ho_bdO, hos_nx, hos_rt, hos_bk, hos_ct, hos_onx, hos_ort, hos_exS, hos_exT, hos_exA, hos_exI, nxt_nx, nxt_rt, nxt_bk, nxt_ct, hos_seq, hos_asg, fin_nx, fin_rt, ho_body1, ho_body2, ho_body3, ho_body4, ho_meth, ho_bm, ho_prop, ho_if, hos_if, ho_and, ho_or, ho_andT, ho_orT, ho_ite, ho_chain, ret_d, ngW_b, blM_b, truM_b, getSl_0, getSl_s, lstM_d, tupM_d, add_ii, add_ss, sub_ii, mul_ii, fdiv_ii, mod_ii, pow_ii, lt_ii, le_ii, gt_ii, ge_ii, eq_ii, ne_ii, eq_ss, ne_ss, intM_i, lenM_t, ixM_t, seqV_s, seqV_t, partM_i, in_1, List.length_cons, List.length_nil, List.length_singleton, List.map_cons, List.map_nil, List.cons_append, List.nil_append, List.set_cons_zero, List.set_cons_succ, List.replicate_succ, List.replicate_zero, List.append_nil, Nat.reduceAdd, Nat.reduceSub, Nat.zero_add, Nat.sub_self, Nat.reduceEqDiff, Nat.reduceLeDiff, if_true, if_false, ite_true, ite_false, reduceIte, decide_true, decide_false, Bool.not_true, Bool.not_false, true_and, and_true, stp_nx, mod_nat, div_cast, d1, d2, d3, sm, parM, List.zip_cons_cons, List.zip_nil_right, List.zip_nil_left, List.foldl_cons, List.foldl_nil, k0, q1, q2, q3, a1, dc, dr, dm, dl, ixM_r _ ht', at1, st]
              exact ⟨⟨_, _, _, _, rfl⟩, fin _ (by rw [whence_drop, if_neg hc, if_neg hrw, if_pos hcl, if_neg hlt])⟩
          · have dm : decide (((n % w : Nat) : Int) = ((c % w : Nat) : Int)) = false := decide_eq_false (by omega)
            simp only [ho_ok, ho_ret, ho_bd, ho_bdI, ho_bdO, hos_nx, hos_rt, hos_bk, hos_ct, hos_onx, hos_ort, hos_exS, hos_exT, hos_exA, hos_exI, nxt_nx, nxt_rt, nxt_bk, nxt_ct, hos_seq, hos_asg, fin_nx, fin_rt, ho_body1, ho_body2, ho_body3, ho_body4, ho_meth, ho_bm, ho_prop, ho_if, hos_if, ho_and, ho_or, ho_andT, ho_orT, ho_ite, ho_chain, ret_d, ngW_b, blM_b, truM_b, getSl_0, getSl_s, lstM_d, tupM_d, add_ii, add_ss, sub_ii, mul_ii, fdiv_ii, mod_ii, pow_ii, lt_ii, le_ii, gt_ii, ge_ii, eq_ii, ne_ii, eq_ss, ne_ss, intM_i, lenM_t, ixM_t, seqV_s, seqV_t, partM_i, in_1, List.length_cons, List.length_nil, List.length_singleton, List.map_cons, List.map_nil, List.cons_append, List.nil_append, List.set_cons_zero, List.set_cons_succ, List.replicate_succ, List.replicate_zero, List.append_nil, Nat.reduceAdd, Nat.reduceSub, Nat.zero_add, Nat.sub_self, Nat.reduceEqDiff, Nat.reduceLeDiff, if_true, if_false, ite_true, ite_false, reduceIte, decide_true, decide_false, Bool.not_true, Bool.not_false, true_and, and_true, stp_nx, mod_nat, div_cast, d1, d2, d3, sm, parM, List.zip_cons_cons, List.zip_nil_right, List.zip_nil_left, List.foldl_cons, List.foldl_nil, k0, q1, q2, q3, a1, dc, dr, dm]
            refine ⟨⟨_, _, _, _, rfl⟩, p, ?_⟩
            rw [hf, aftTo_stay hn (by rw [whence_drop, if_neg hc, if_neg hrw, if_neg hcl])]
  · obtain ⟨⟨x7, x8, x9, x10, rfl⟩, p, hf⟩ := hp
    have e : ((List.range ((w * h : Nat) : Int).toNat).map fun (n : Nat) => W.int n).length = w * h := by rw [List.length_map, List.length_range, Int.toNat_natCast]
    rw [e, aftTo_all] at hf
    simp only [ho_ok, ho_ret, ho_bd, ho_bdI, ho_bdO, hos_nx, hos_rt, hos_bk, hos_ct, hos_onx, hos_ort, hos_exS, hos_exT, hos_exA, hos_exI, nxt_nx, nxt_rt, nxt_bk, nxt_ct, hos_seq, hos_asg, fin_nx, fin_rt, ho_body1, ho_body2, ho_body3, ho_body4, ho_meth, ho_bm, ho_prop, ho_if, hos_if, ho_and, ho_or, ho_andT, ho_orT, ho_ite, ho_chain, ret_d, ngW_b, blM_b, truM_b, getSl_0, getSl_s, lstM_d, tupM_d, add_ii, add_ss, sub_ii, mul_ii, fdiv_ii, mod_ii, pow_ii, lt_ii, le_ii, gt_ii, ge_ii, eq_ii, ne_ii, eq_ss, ne_ss, intM_i, lenM_t, ixM_t, seqV_s, seqV_t, partM_i, in_1, List.length_cons, List.length_nil, List.length_singleton, List.map_cons, List.map_nil, List.cons_append, List.nil_append, List.set_cons_zero, List.set_cons_succ, List.replicate_succ, List.replicate_zero, List.append_nil, Nat.reduceAdd, Nat.reduceSub, Nat.zero_add, Nat.sub_self, Nat.reduceEqDiff, Nat.reduceLeDiff, if_true, if_false, ite_true, ite_false, reduceIte, decide_true, decide_false, Bool.not_true, Bool.not_false, true_and, and_true]
    exact ⟨_, rfl, p, Nat.le_refl _, hf⟩
end
end Lw


namespace Lw
open PySem L2 RP
theorem last_at {rs : List Nat} {n x : Nat} (hl : rs.length = n + 1) (hx : rs[n]? = some x) : atI (rs.map W.ref) (-1) = some (.ref x) := by
  have e : (rs.map W.ref).length = n + 1 := by rw [List.length_map, hl]
  unfold atI ixN
  rw [if_neg (by omega), if_pos (by rw [e]; omega), e]
  show (rs.map W.ref)[((-1 : Int) + ((n + 1 : Nat) : Int)).toNat]? = _
  rw [show ((-1 : Int) + ((n + 1 : Nat) : Int)).toNat = n by omega, List.getElem?_map, hx]
  rfl
theorem neg1 {S : Sto} : pyNeg (.int 1) S = .ok (.int (-1)) S := rfl
/-- the signs at the beginning and behind each deed -/
structure RunRows (S : Sto) (j : Nat) (rs : List Nat) (w h : Nat) (l : List Nat) (ds : List Deed) (n : Nat) : Prop where
  at_ : S[j]? = some (.lst (rs.map W.ref))
  len : rs.length = n + 1
  each : ∀ k x, rs[k]? = some x → S[x]? = some (.lst (sgW (runN w h l (ds.take k)))) ∧ x ≠ j
theorem RunRows.up {S S' : Sto} {j : Nat} {rs : List Nat} {w h : Nat} {l : List Nat} {ds : List Deed} {n : Nat} (R : RunRows S j rs w h l ds n) (p : S <+: S') : RunRows S' j rs w h l ds n := ⟨R.at_.up p, R.len, fun k x e => ⟨(R.each k x e).1.up p, (R.each k x e).2⟩⟩
section
variable {S : Sto} {i r : Nat} {w h : Nat} {l : List Nat} {ds : List Deed}
theorem rows_ok (f : Fits (w : Int) (h : Int) l) (b : IsBath S i w h (txt l)) (hd : ∀ d ∈ ds, d.Ok w h) (hdl : ds.length ≤ 12) {rec : W} (hv : seqV rec S = .ok (fun _ => some (ds.map deedW)) S) :
    Ho (g__law_rows [.ref i, rec] S) (fun v S' => ∃ j rs, v = .ref j ∧ S <+: S' ∧ RunRows S' j rs w h l ds ds.length) noX := by
  have hz2 := sizeLine_big
  have z1 : (1 : Nat) ≤ sizeLine := by omega
  have hl := f.natLen
  have l12 := f.l12
  have tl : l.length ≤ sizeLine := by omega
  have e46 : Str.ofString "." = one 46 := by decide +kernel
  have w1 := f.w1
  have h1 := f.h1
  have g0 : (S ++ [Ob.lst (sgW l)] ++ [Ob.lst [W.ref S.length]])[(S ++ [Ob.lst (sgW l)]).length]? = some (.lst ([S.length].map W.ref)) := get_last
  have g1 : (S ++ [Ob.lst (sgW l)] ++ [Ob.lst [W.ref S.length]])[S.length]? = some (.lst (sgW l)) := get_app get_last
  have p0 : S <+: S ++ [Ob.lst (sgW l)] ++ [Ob.lst [W.ref S.length]] := pre1.trans pre1
  have ne : S.length < (S ++ [Ob.lst (sgW l)]).length := by simp
  have hv2 : seqV rec (S ++ [Ob.lst (sgW l)] ++ [Ob.lst [W.ref S.length]]) = .ok (fun _ => some (ds.map deedW)) (S ++ [Ob.lst (sgW l)] ++ [Ob.lst [W.ref S.length]]) := by
    cases rec with
    | tup xs =>
      rw [seqV_t] at hv ⊢
      injection hv with e
      rw [e]
    | str x =>
      rw [seqV_s] at hv ⊢
      injection hv with e
      rw [e]
    | ref q =>
      exfalso
      unfold seqV at hv
      simp only at hv
      split at hv
      · rename_i xs hq
        injection hv with e
        have := congrFun e []
        simp [seqOf] at this
      · cases hv
    | _ => cases hv
  unfold g__law_rows
  unfold sgW at g0 g1 p0 ne hv2
  simp only [ho_ok, ho_ret, ho_bd, ho_bdI, ho_bdO, hos_nx, hos_rt, hos_bk, hos_ct, hos_onx, hos_ort, hos_exS, hos_exT, hos_exA, hos_exI, nxt_nx, nxt_rt, nxt_bk, nxt_ct, hos_seq, hos_asg, fin_nx, fin_rt, ho_body1, ho_body2, ho_body3, ho_body4, ho_meth, ho_bm, ho_prop, ho_if, hos_if, ho_and, ho_or, ho_andT, ho_orT, ho_ite, ho_chain, ret_d, ngW_b, blM_b, truM_b, getSl_0, getSl_s, lstM_d, tupM_d, add_ii, add_ss, sub_ii, mul_ii, fdiv_ii, mod_ii, pow_ii, lt_ii, le_ii, gt_ii, ge_ii, eq_ii, ne_ii, eq_ss, ne_ss, intM_i, lenM_t, ixM_t, seqV_s, seqV_t, partM_i, in_1, List.length_cons, List.length_nil, List.length_singleton, List.map_cons, List.map_nil, List.cons_append, List.nil_append, List.set_cons_zero, List.set_cons_succ, List.replicate_succ, List.replicate_zero, List.append_nil, Nat.reduceAdd, Nat.reduceSub, Nat.zero_add, Nat.sub_self, Nat.reduceEqDiff, Nat.reduceLeDiff, if_true, if_false, ite_true, ite_false, reduceIte, decide_true, decide_false, Bool.not_true, Bool.not_false, true_and, and_true, r__law_rows, b.cls, cells_ok b, listM_s, txt_len, tl, txt_list, z1, hv2]
  generalize (S ++ [Ob.lst (l.map fun n => W.str ⟨#[n]⟩)]).length = j at g0 ne ⊢
  have hge : S.length ≤ j := by omega
  generalize S ++ [Ob.lst (l.map fun n => W.str ⟨#[n]⟩)] ++ [Ob.lst [W.ref S.length]] = S1 at g0 g1 p0 ⊢
  refine hos_for (ws := ds.map deedW) (fun n sl' S' => (∃ x3 x4, sl' = [some (.ref i), some rec, some (.ref j), x3, x4]) ∧ S <+: S' ∧ ∃ rs, RunRows S' j rs w h l ds n) ⟨⟨_, _, rfl⟩, p0, [S.length], g0, rfl, fun k x hk => ?_⟩ (fun _ _ _ _ => rfl) (fun n u sl' S2 hw1 hp => ?_) fun sl' S2 hp => ?_
  · cases k with
    | zero =>
      simp at hk
      subst hk
      exact ⟨g1, by omega⟩
    | succ k => simp at hk
  · obtain ⟨⟨x3, x4, rfl⟩, p2, rs, P⟩ := hp
    obtain ⟨d, hdn, rfl⟩ := map_at hw1
    have ok := hd d (List.mem_of_getElem? hdn)
    have hn := (List.getElem?_eq_some_iff.mp hdn).1
    have fr := Fits.run (ds := ds.take n) f fun d' h' => hd d' (List.mem_of_mem_take h')
    have tk : ds.take (n + 1) = ds.take n ++ [d] := by rw [List.take_add_one, hdn]; rfl
    have frl := fr.natLen
    have b2 := b.up p2
    have lr : n < rs.length := by rw [P.len]; omega
    have hx : rs[n]? = some rs[n] := List.getElem?_eq_getElem lr
    obtain ⟨gx, nx⟩ := P.each n _ hx
    have la := last_at P.len hx
    generalize rs[n] = x at hx gx nx la
    have kd := kind_drop d
    have a2 : isDrop d = true → ixM (deedW d) (.int 2) S2 = .ok (.str (one (frN d))) S2 := fun z => by
      cases d with
      | drop c x => rfl
      | _ => cases z
    have f2 : isDrop d = false → frN d = 46 := fun z => by
      cases d with
      | drop c x => cases z
      | _ => rfl
    have bk := behind_ok fr (i := i) (S := S2) (t := x) (d := d) (xs := sgW (runN w h l (ds.take n))) (fr := .str (one (frN d)))
    have bk := behind_ok (l := l) f b2 ok gx (by simp [sgW, frl]) (.str (one (frN d)))
    cases hdr : isDrop d
    all_goals
      rw [hdr] at kd
      first
        | (have a2' := a2 hdr; simp only [ho_ok, ho_ret, ho_bd, ho_bdI, ho_bdO, hos_nx, hos_rt, hos_bk, hos_ct, hos_onx, hos_ort, hos_exS, hos_exT, hos_exA, hos_exI, nxt_nx, nxt_rt, nxt_bk, nxt_ct, hos_seq, hos_asg, fin_nx, fin_rt, ho_body1, ho_body2, ho_body3, ho_body4, ho_meth, ho_bm, ho_prop, ho_if, hos_if, ho_and, ho_or, ho_andT, ho_orT, ho_ite, ho_chain, ret_d, ngW_b, blM_b, truM_b, getSl_0, getSl_s, lstM_d, tupM_d, add_ii, add_ss, sub_ii, mul_ii, fdiv_ii, mod_ii, pow_ii, lt_ii, le_ii, gt_ii, ge_ii, eq_ii, ne_ii, eq_ss, ne_ss, intM_i, lenM_t, ixM_t, seqV_s, seqV_t, partM_i, in_1, List.length_cons, List.length_nil, List.length_singleton, List.map_cons, List.map_nil, List.cons_append, List.nil_append, List.set_cons_zero, List.set_cons_succ, List.replicate_succ, List.replicate_zero, List.append_nil, Nat.reduceAdd, Nat.reduceSub, Nat.zero_add, Nat.sub_self, Nat.reduceEqDiff, Nat.reduceLeDiff, if_true, if_false, ite_true, ite_false, reduceIte, decide_true, decide_false, Bool.not_true, Bool.not_false, true_and, and_true, deed0, kd, a2', tyN_lst P.at_, neg1, ixM_r _ (seq_lst P.at_), la])
        | (simp only [ho_ok, ho_ret, ho_bd, ho_bdI, ho_bdO, hos_nx, hos_rt, hos_bk, hos_ct, hos_onx, hos_ort, hos_exS, hos_exT, hos_exA, hos_exI, nxt_nx, nxt_rt, nxt_bk, nxt_ct, hos_seq, hos_asg, fin_nx, fin_rt, ho_body1, ho_body2, ho_body3, ho_body4, ho_meth, ho_bm, ho_prop, ho_if, hos_if, ho_and, ho_or, ho_andT, ho_orT, ho_ite, ho_chain, ret_d, ngW_b, blM_b, truM_b, getSl_0, getSl_s, lstM_d, tupM_d, add_ii, add_ss, sub_ii, mul_ii, fdiv_ii, mod_ii, pow_ii, lt_ii, le_ii, gt_ii, ge_ii, eq_ii, ne_ii, eq_ss, ne_ss, intM_i, lenM_t, ixM_t, seqV_s, seqV_t, partM_i, in_1, List.length_cons, List.length_nil, List.length_singleton, List.map_cons, List.map_nil, List.cons_append, List.nil_append, List.set_cons_zero, List.set_cons_succ, List.replicate_succ, List.replicate_zero, List.append_nil, Nat.reduceAdd, Nat.reduceSub, Nat.zero_add, Nat.sub_self, Nat.reduceEqDiff, Nat.reduceLeDiff, if_true, if_false, ite_true, ite_false, reduceIte, decide_true, decide_false, Bool.not_true, Bool.not_false, true_and, and_true, deed0, kd, e46, tyN_lst P.at_, neg1, ixM_r _ (seq_lst P.at_), la]; rw [← f2 hdr])
      refine Ho.call bk ?_
      rintro v S3 ⟨q, rfl, p3, hq, gq⟩
      rw [aft_sg (by omega) (by omega) frl ok, ← run_snoc, ← tk] at gq
      have P3 := P.up p3
      have hql : (rs.map W.ref).length < sizeLine := by rw [List.length_map, P.len]; omega
      have hjl : j < S2.length := (List.getElem?_eq_some_iff.mp P.at_).1
      simp only [ho_ok, ho_ret, ho_bd, ho_bdI, ho_bdO, hos_nx, hos_rt, hos_bk, hos_ct, hos_onx, hos_ort, hos_exS, hos_exT, hos_exA, hos_exI, nxt_nx, nxt_rt, nxt_bk, nxt_ct, hos_seq, hos_asg, fin_nx, fin_rt, ho_body1, ho_body2, ho_body3, ho_body4, ho_meth, ho_bm, ho_prop, ho_if, hos_if, ho_and, ho_or, ho_andT, ho_orT, ho_ite, ho_chain, ret_d, ngW_b, blM_b, truM_b, getSl_0, getSl_s, lstM_d, tupM_d, add_ii, add_ss, sub_ii, mul_ii, fdiv_ii, mod_ii, pow_ii, lt_ii, le_ii, gt_ii, ge_ii, eq_ii, ne_ii, eq_ss, ne_ss, intM_i, lenM_t, ixM_t, seqV_s, seqV_t, partM_i, in_1, List.length_cons, List.length_nil, List.length_singleton, List.map_cons, List.map_nil, List.cons_append, List.nil_append, List.set_cons_zero, List.set_cons_succ, List.replicate_succ, List.replicate_zero, List.append_nil, Nat.reduceAdd, Nat.reduceSub, Nat.zero_add, Nat.sub_self, Nat.reduceEqDiff, Nat.reduceLeDiff, if_true, if_false, ite_true, ite_false, reduceIte, decide_true, decide_false, Bool.not_true, Bool.not_false, true_and, and_true, app_l P3.at_ hql]
      refine ⟨⟨_, _, rfl⟩, pre_put2 (p2.trans p3) hge, rs ++ [q], ?_, by simp [P.len], fun k y hk => ?_⟩
      · rw [set_get P3.at_, List.map_append]
        rfl
      · by_cases hkl : k < rs.length
        · rw [List.getElem?_append_left hkl] at hk
          obtain ⟨e1, e2⟩ := P3.each k y hk
          exact ⟨set_get2 e1 e2, e2⟩
        · rw [List.getElem?_append_right (by omega)] at hk
          cases hz : k - rs.length with
          | succ m => rw [hz] at hk; simp at hk
          | zero =>
            rw [hz] at hk
            simp only [List.getElem?_cons_zero, Option.some.injEq] at hk
            subst hk
            have : k = n + 1 := by rw [P.len] at hz hkl; omega
            subst this
            exact ⟨set_get2 gq (by omega), by omega⟩
  · obtain ⟨⟨x3, x4, rfl⟩, p2, rs, P⟩ := hp
    rw [List.length_map] at P
    simp only [ho_ok, ho_ret, ho_bd, ho_bdI, ho_bdO, hos_nx, hos_rt, hos_bk, hos_ct, hos_onx, hos_ort, hos_exS, hos_exT, hos_exA, hos_exI, nxt_nx, nxt_rt, nxt_bk, nxt_ct, hos_seq, hos_asg, fin_nx, fin_rt, ho_body1, ho_body2, ho_body3, ho_body4, ho_meth, ho_bm, ho_prop, ho_if, hos_if, ho_and, ho_or, ho_andT, ho_orT, ho_ite, ho_chain, ret_d, ngW_b, blM_b, truM_b, getSl_0, getSl_s, lstM_d, tupM_d, add_ii, add_ss, sub_ii, mul_ii, fdiv_ii, mod_ii, pow_ii, lt_ii, le_ii, gt_ii, ge_ii, eq_ii, ne_ii, eq_ss, ne_ss, intM_i, lenM_t, ixM_t, seqV_s, seqV_t, partM_i, in_1, List.length_cons, List.length_nil, List.length_singleton, List.map_cons, List.map_nil, List.cons_append, List.nil_append, List.set_cons_zero, List.set_cons_succ, List.replicate_succ, List.replicate_zero, List.append_nil, Nat.reduceAdd, Nat.reduceSub, Nat.zero_add, Nat.sub_self, Nat.reduceEqDiff, Nat.reduceLeDiff, if_true, if_false, ite_true, ite_false, reduceIte, decide_true, decide_false, Bool.not_true, Bool.not_false, true_and, and_true]
    exact ⟨j, rs, rfl, p2, P⟩
/-! spelling -/
theorem spell_lc {S : Sto} {cs l : List Nat} {sl0 : Slots} {elt : Slots → M W} {g : W → Slots → M Slots} (h2 : ∀ c ∈ cs, c < l.length) (hl : cs.length ≤ 100)
    (he : ∀ c, c < l.length → ∃ sl1, g (.int (c : Nat)) sl0 S = .ok sl1 S ∧ elt sl1 S = .ok (.str (one (l.getD c 0))) S) :
    lcV (fun _ => some (nums cs)) g (fun _ => RP.ret true) elt sl0 S = .ok (.ref S.length) (S ++ [.lst (sgW (spell l cs))]) := by
  have hz2 := sizeLine_big
  have := lcV_map (S := S) (v := fun _ => some (nums cs)) (g := g) (elt := elt) (sl0 := sl0) (ws := nums cs) (fun x => match x with | .int i => .str (one (l.getD i.toNat 0)) | _ => .non) rfl (by rw [nums_len]; omega) fun u hu => by
    obtain ⟨c, hc, rfl⟩ := List.mem_map.mp hu
    obtain ⟨sl1, e1, e2⟩ := he c (h2 c hc)
    exact ⟨sl1, e1, e2⟩
  rw [this]
  congr 3
  unfold nums sgW spell
  rw [List.map_map, List.map_map]
  rfl
theorem check_text_ok {t : List Nat} (hs : ∀ c ∈ t, c ∈ sgs) (h0 : 1 ≤ t.length) (hl : t.length ≤ 12) (S : Sto) : Ho (g_check_text [.int (t.length : Nat), .str (txt t)] S) (fun v S' => v = .non ∧ S <+: S') noX := by
  have hz2 := sizeLine_big
  have hz3 : (Str.ofString "abcdefghijklmnopqrstuvwxyz").length + (Str.ofString ".").length ≤ sizeLine := by decide +kernel
  have tl : t.length ≤ sizeLine := by omega
  have lc : lcV (fun _ => some ((txt t).cps.toList.map fun n => W.str ⟨#[n]⟩)) (Tgt.one 2).g (fun x => RP.ret true) (fun sl => bd (getSl 2 sl) fun x => bd (bd (RP.ret (W.str (Str.ofString "abcdefghijklmnopqrstuvwxyz"))) fun x => bd (RP.ret (W.str (Str.ofString "."))) fun y => pyAdd x y) fun y => pyIn x y) (wipeS [some (.int (t.length : Nat)), some (.str (txt t)), none] [2]) S
      = .ok (.ref S.length) (S ++ [.lst (((txt t).cps.toList.map fun n => W.str ⟨#[n]⟩).map fun _ => .bl true)]) := by
    refine lcV_map (fun _ => .bl true) rfl ?_ fun u hu => ?_
    · rw [List.length_map, txt_list]; omega
    · obtain ⟨c, hc, rfl⟩ := List.mem_map.mp hu
      rw [txt_list] at hc
      have hin := sgs_in c (hs c hc)
      refine ⟨_, rfl, ?_⟩
      simp only [bd_d, wipeS, List.set_cons_succ, List.set_cons_zero, getSl_s, getSl_0, ret_d, add_ss, hz3, if_true, in_1, hin, decide_true]
  have hb : bools (((txt t).cps.toList.map fun n => W.str ⟨#[n]⟩).map fun _ => W.bl true) = some ((t.map fun n => W.str ⟨#[n]⟩).map fun _ => true) := bools_map (fun _ => true) _
  have hs : seqOf (S ++ [.lst (((txt t).cps.toList.map fun n => W.str ⟨#[n]⟩).map fun _ => .bl true)]) S.length = some _ := seq_lst get_last
  have al : ((t.map fun n => W.str ⟨#[n]⟩).map fun _ => true).all id = true := by simp
  have ag : g_are_signs [.int (t.length : Nat), .str (txt t)] S = .ok (.bl true) (S ++ [.lst (((txt t).cps.toList.map fun n => W.str ⟨#[n]⟩).map fun _ => .bl true)]) := by
    obtain ⟨a, S', e, rfl, rfl⟩ := Ho.ex (show Ho (g_are_signs [.int (t.length : Nat), .str (txt t)] S) (fun v S' => v = .bl true ∧ S' = (S ++ [.lst (((txt t).cps.toList.map fun n => W.str ⟨#[n]⟩).map fun _ => .bl true)])) noX by
      unfold g_are_signs
      simp only [ho_ok, ho_ret, ho_bd, ho_bdI, ho_bdO, hos_nx, hos_rt, hos_bk, hos_ct, hos_onx, hos_ort, hos_exS, hos_exT, hos_exA, hos_exI, nxt_nx, nxt_rt, nxt_bk, nxt_ct, hos_seq, hos_asg, fin_nx, fin_rt, ho_body1, ho_body2, ho_body3, ho_body4, ho_meth, ho_bm, ho_prop, ho_if, hos_if, ho_and, ho_or, ho_andT, ho_orT, ho_ite, ho_chain, ret_d, ngW_b, blM_b, truM_b, getSl_0, getSl_s, lstM_d, tupM_d, add_ii, add_ss, sub_ii, mul_ii, fdiv_ii, mod_ii, pow_ii, lt_ii, le_ii, gt_ii, ge_ii, eq_ii, ne_ii, eq_ss, ne_ss, intM_i, lenM_t, ixM_t, seqV_s, seqV_t, partM_i, in_1, List.length_cons, List.length_nil, List.length_singleton, List.map_cons, List.map_nil, List.cons_append, List.nil_append, List.set_cons_zero, List.set_cons_succ, List.replicate_succ, List.replicate_zero, List.append_nil, Nat.reduceAdd, Nat.reduceSub, Nat.zero_add, Nat.sub_self, Nat.reduceEqDiff, Nat.reduceLeDiff, if_true, if_false, ite_true, ite_false, reduceIte, decide_true, decide_false, Bool.not_true, Bool.not_false, true_and, and_true, r_are_signs, isiM, tyN, kit_str_str, lenM_s, txt_len, tl, lc, allM_r hs hb, al])
    exact e
  unfold g_check_text
  simp only [ho_ok, ho_ret, ho_bd, ho_bdI, ho_bdO, hos_nx, hos_rt, hos_bk, hos_ct, hos_onx, hos_ort, hos_exS, hos_exT, hos_exA, hos_exI, nxt_nx, nxt_rt, nxt_bk, nxt_ct, hos_seq, hos_asg, fin_nx, fin_rt, ho_body1, ho_body2, ho_body3, ho_body4, ho_meth, ho_bm, ho_prop, ho_if, hos_if, ho_and, ho_or, ho_andT, ho_orT, ho_ite, ho_chain, ret_d, ngW_b, blM_b, truM_b, getSl_0, getSl_s, lstM_d, tupM_d, add_ii, add_ss, sub_ii, mul_ii, fdiv_ii, mod_ii, pow_ii, lt_ii, le_ii, gt_ii, ge_ii, eq_ii, ne_ii, eq_ss, ne_ss, intM_i, lenM_t, ixM_t, seqV_s, seqV_t, partM_i, in_1, List.length_cons, List.length_nil, List.length_singleton, List.map_cons, List.map_nil, List.cons_append, List.nil_append, List.set_cons_zero, List.set_cons_succ, List.replicate_succ, List.replicate_zero, List.append_nil, Nat.reduceAdd, Nat.reduceSub, Nat.zero_add, Nat.sub_self, Nat.reduceEqDiff, Nat.reduceLeDiff, if_true, if_false, ite_true, ite_false, reduceIte, decide_true, decide_false, Bool.not_true, Bool.not_false, true_and, and_true, r_check_text, ag]
  exact ⟨_, rfl⟩
end
end Lw


namespace Lw
open PySem L2 RP
section
variable {S : Sto} {i r : Nat} {w h : Nat} {l : List Nat} {ds : List Deed} {cs t : List Nat}
theorem moments_ok (f : Fits (w : Int) (h : Int) l) (b : IsBath S i w h (txt l)) (hd : ∀ d ∈ ds, d.Ok w h) (hdl : ds.length ≤ 12) (h0 : cs ≠ []) (h1 : cs.Pairwise (· < ·)) (h2 : ∀ c ∈ cs, c < l.length) (ht : ∀ c ∈ t, c ∈ sgs) (htl : t.length = cs.length) :
    Ho (g_moments [.ref i, .tup (ds.map deedW), .tup (nums cs), .str (txt t)] S) (fun v S' => ∃ j, v = .ref j ∧ S <+: S' ∧ S'[j]? = some (.lst (nums ((List.range (ds.length + 1)).filter fun k => decide (spell (runN w h l (ds.take k)) cs = t))))) noX := by
  have hz2 := sizeLine_big
  have hl := f.natLen
  have l12 := f.l12
  have w1 := f.w1
  have h1' := f.h1
  have w5 := f.w5
  have h5' := f.h5
  have cl : cs.length ≤ 12 := by
    have := inc_sub_len h1 (range_inc l.length) fun c hc => List.mem_range.mpr (h2 c hc)
    rw [List.length_range] at this
    omega
  have c1 : 1 ≤ cs.length := List.length_pos_iff.mpr h0
  unfold g_moments
  simp only [ho_ok, ho_ret, ho_bd, ho_bdI, ho_bdO, hos_nx, hos_rt, hos_bk, hos_ct, hos_onx, hos_ort, hos_exS, hos_exT, hos_exA, hos_exI, nxt_nx, nxt_rt, nxt_bk, nxt_ct, hos_seq, hos_asg, fin_nx, fin_rt, ho_body1, ho_body2, ho_body3, ho_body4, ho_meth, ho_bm, ho_prop, ho_if, hos_if, ho_and, ho_or, ho_andT, ho_orT, ho_ite, ho_chain, ret_d, ngW_b, blM_b, truM_b, getSl_0, getSl_s, lstM_d, tupM_d, add_ii, add_ss, sub_ii, mul_ii, fdiv_ii, mod_ii, pow_ii, lt_ii, le_ii, gt_ii, ge_ii, eq_ii, ne_ii, eq_ss, ne_ss, intM_i, lenM_t, ixM_t, seqV_s, seqV_t, partM_i, in_1, List.length_cons, List.length_nil, List.length_singleton, List.map_cons, List.map_nil, List.cons_append, List.nil_append, List.set_cons_zero, List.set_cons_succ, List.replicate_succ, List.replicate_zero, List.append_nil, Nat.reduceAdd, Nat.reduceSub, Nat.zero_add, Nat.sub_self, Nat.reduceEqDiff, Nat.reduceLeDiff, if_true, if_false, ite_true, ite_false, reduceIte, decide_true, decide_false, Bool.not_true, Bool.not_false, true_and, and_true, r_moments, b.cls, width_ok b, height_ok b]
  refine Ho.call (check_recipe_ok (by omega) (by omega) (by omega) (by omega) hd hdl S) ?_
  rintro v S1 ⟨rfl, p1⟩
  have p0 : S <+: S := List.prefix_refl _
  try replace f := f.up p1
  try replace w := w.up p1
  try replace h := h.up p1
  try replace b := b.up p1
  try replace hd := hd.up p1
  try replace hdl := hdl.up p1
  try replace h0 := h0.up p1
  try replace h2 := h2.up p1
  try replace ht := ht.up p1
  try replace htl := htl.up p1
  try replace hz2 := hz2.up p1
  try replace hl := hl.up p1
  try replace l12 := l12.up p1
  try replace w1 := w1.up p1
  try replace h1 := h1.up p1
  try replace w5 := w5.up p1
  try replace h5 := h5.up p1
  try replace cl := cl.up p1
  try replace c1 := c1.up p1
  try replace p0 := p0.up p1
  try simp only [ho_ok, ho_ret, ho_bd, ho_bdI, ho_bdO, hos_nx, hos_rt, hos_bk, hos_ct, hos_onx, hos_ort, hos_exS, hos_exT, hos_exA, hos_exI, nxt_nx, nxt_rt, nxt_bk, nxt_ct, hos_seq, hos_asg, fin_nx, fin_rt, ho_body1, ho_body2, ho_body3, ho_body4, ho_meth, ho_bm, ho_prop, ho_if, hos_if, ho_and, ho_or, ho_andT, ho_orT, ho_ite, ho_chain, ret_d, ngW_b, blM_b, truM_b, getSl_0, getSl_s, lstM_d, tupM_d, add_ii, add_ss, sub_ii, mul_ii, fdiv_ii, mod_ii, pow_ii, lt_ii, le_ii, gt_ii, ge_ii, eq_ii, ne_ii, eq_ss, ne_ss, intM_i, lenM_t, ixM_t, seqV_s, seqV_t, partM_i, in_1, List.length_cons, List.length_nil, List.length_singleton, List.map_cons, List.map_nil, List.cons_append, List.nil_append, List.set_cons_zero, List.set_cons_succ, List.replicate_succ, List.replicate_zero, List.append_nil, Nat.reduceAdd, Nat.reduceSub, Nat.zero_add, Nat.sub_self, Nat.reduceEqDiff, Nat.reduceLeDiff, if_true, if_false, ite_true, ite_false, reduceIte, decide_true, decide_false, Bool.not_true, Bool.not_false, true_and, and_true]
  refine Ho.call (places_ok f b h0 h1 h2) ?_
  rintro v S2 ⟨rfl, p2⟩
  try replace f := f.up p2
  try replace w := w.up p2
  try replace h := h.up p2
  try replace b := b.up p2
  try replace hd := hd.up p2
  try replace hdl := hdl.up p2
  try replace h0 := h0.up p2
  try replace h2 := h2.up p2
  try replace ht := ht.up p2
  try replace htl := htl.up p2
  try replace hz2 := hz2.up p2
  try replace hl := hl.up p2
  try replace l12 := l12.up p2
  try replace w1 := w1.up p2
  try replace h1 := h1.up p2
  try replace w5 := w5.up p2
  try replace h5 := h5.up p2
  try replace cl := cl.up p2
  try replace c1 := c1.up p2
  try replace p1 := p1.up p2
  try replace p0 := p0.up p2
  have ct := check_text_ok ht (by omega) (by omega) S2
  rw [htl] at ct
  simp only [ho_ok, ho_ret, ho_bd, ho_bdI, ho_bdO, hos_nx, hos_rt, hos_bk, hos_ct, hos_onx, hos_ort, hos_exS, hos_exT, hos_exA, hos_exI, nxt_nx, nxt_rt, nxt_bk, nxt_ct, hos_seq, hos_asg, fin_nx, fin_rt, ho_body1, ho_body2, ho_body3, ho_body4, ho_meth, ho_bm, ho_prop, ho_if, hos_if, ho_and, ho_or, ho_andT, ho_orT, ho_ite, ho_chain, ret_d, ngW_b, blM_b, truM_b, getSl_0, getSl_s, lstM_d, tupM_d, add_ii, add_ss, sub_ii, mul_ii, fdiv_ii, mod_ii, pow_ii, lt_ii, le_ii, gt_ii, ge_ii, eq_ii, ne_ii, eq_ss, ne_ss, intM_i, lenM_t, ixM_t, seqV_s, seqV_t, partM_i, in_1, List.length_cons, List.length_nil, List.length_singleton, List.map_cons, List.map_nil, List.cons_append, List.nil_append, List.set_cons_zero, List.set_cons_succ, List.replicate_succ, List.replicate_zero, List.append_nil, Nat.reduceAdd, Nat.reduceSub, Nat.zero_add, Nat.sub_self, Nat.reduceEqDiff, Nat.reduceLeDiff, if_true, if_false, ite_true, ite_false, reduceIte, decide_true, decide_false, Bool.not_true, Bool.not_false, true_and, and_true, lenM_t, nums_len]
  refine Ho.call ct ?_
  rintro v S3 ⟨rfl, p3⟩
  try replace f := f.up p3
  try replace w := w.up p3
  try replace h := h.up p3
  try replace b := b.up p3
  try replace hd := hd.up p3
  try replace hdl := hdl.up p3
  try replace h0 := h0.up p3
  try replace h2 := h2.up p3
  try replace ht := ht.up p3
  try replace htl := htl.up p3
  try replace hz2 := hz2.up p3
  try replace hl := hl.up p3
  try replace l12 := l12.up p3
  try replace w1 := w1.up p3
  try replace h1 := h1.up p3
  try replace w5 := w5.up p3
  try replace h5 := h5.up p3
  try replace cl := cl.up p3
  try replace c1 := c1.up p3
  try replace p1 := p1.up p3
  try replace p0 := p0.up p3
  try replace p2 := p2.up p3
  try replace ct := ct.up p3
  simp only [ho_ok, ho_ret, ho_bd, ho_bdI, ho_bdO, hos_nx, hos_rt, hos_bk, hos_ct, hos_onx, hos_ort, hos_exS, hos_exT, hos_exA, hos_exI, nxt_nx, nxt_rt, nxt_bk, nxt_ct, hos_seq, hos_asg, fin_nx, fin_rt, ho_body1, ho_body2, ho_body3, ho_body4, ho_meth, ho_bm, ho_prop, ho_if, hos_if, ho_and, ho_or, ho_andT, ho_orT, ho_ite, ho_chain, ret_d, ngW_b, blM_b, truM_b, getSl_0, getSl_s, lstM_d, tupM_d, add_ii, add_ss, sub_ii, mul_ii, fdiv_ii, mod_ii, pow_ii, lt_ii, le_ii, gt_ii, ge_ii, eq_ii, ne_ii, eq_ss, ne_ss, intM_i, lenM_t, ixM_t, seqV_s, seqV_t, partM_i, in_1, List.length_cons, List.length_nil, List.length_singleton, List.map_cons, List.map_nil, List.cons_append, List.nil_append, List.set_cons_zero, List.set_cons_succ, List.replicate_succ, List.replicate_zero, List.append_nil, Nat.reduceAdd, Nat.reduceSub, Nat.zero_add, Nat.sub_self, Nat.reduceEqDiff, Nat.reduceLeDiff, if_true, if_false, ite_true, ite_false, reduceIte, decide_true, decide_false, Bool.not_true, Bool.not_false, true_and, and_true, b.cls, width_ok b, height_ok b, cells_ok b]
  refine Ho.call (all_steps_ok f hd hdl S3) ?_
  rintro v S4 ⟨j, rfl, p4, gj⟩
  try replace f := f.up p4
  try replace w := w.up p4
  try replace h := h.up p4
  try replace b := b.up p4
  try replace hd := hd.up p4
  try replace hdl := hdl.up p4
  try replace h0 := h0.up p4
  try replace h2 := h2.up p4
  try replace ht := ht.up p4
  try replace htl := htl.up p4
  try replace hz2 := hz2.up p4
  try replace hl := hl.up p4
  try replace l12 := l12.up p4
  try replace w1 := w1.up p4
  try replace h1 := h1.up p4
  try replace w5 := w5.up p4
  try replace h5 := h5.up p4
  try replace cl := cl.up p4
  try replace c1 := c1.up p4
  try replace p1 := p1.up p4
  try replace p0 := p0.up p4
  try replace p2 := p2.up p4
  try replace ct := ct.up p4
  try replace p3 := p3.up p4
  try replace j := j.up p4
  try replace gj := gj.up p4
  simp only [ho_ok, ho_ret, ho_bd, ho_bdI, ho_bdO, hos_nx, hos_rt, hos_bk, hos_ct, hos_onx, hos_ort, hos_exS, hos_exT, hos_exA, hos_exI, nxt_nx, nxt_rt, nxt_bk, nxt_ct, hos_seq, hos_asg, fin_nx, fin_rt, ho_body1, ho_body2, ho_body3, ho_body4, ho_meth, ho_bm, ho_prop, ho_if, hos_if, ho_and, ho_or, ho_andT, ho_orT, ho_ite, ho_chain, ret_d, ngW_b, blM_b, truM_b, getSl_0, getSl_s, lstM_d, tupM_d, add_ii, add_ss, sub_ii, mul_ii, fdiv_ii, mod_ii, pow_ii, lt_ii, le_ii, gt_ii, ge_ii, eq_ii, ne_ii, eq_ss, ne_ss, intM_i, lenM_t, ixM_t, seqV_s, seqV_t, partM_i, in_1, List.length_cons, List.length_nil, List.length_singleton, List.map_cons, List.map_nil, List.cons_append, List.nil_append, List.set_cons_zero, List.set_cons_succ, List.replicate_succ, List.replicate_zero, List.append_nil, Nat.reduceAdd, Nat.reduceSub, Nat.zero_add, Nat.sub_self, Nat.reduceEqDiff, Nat.reduceLeDiff, if_true, if_false, ite_true, ite_false, reduceIte, decide_true, decide_false, Bool.not_true, Bool.not_false, true_and, and_true, enumV_r (seq_lst gj)]
  refine ho_lc (ws := enumL (strsW (stepsL w h l ds ds.length))) (fun n acc S' => S4 <+: S' ∧ acc = nums ((List.range n).filter fun k => decide (spell (runN w h l (ds.take k)) cs = t))) ⟨List.prefix_refl _, rfl⟩ (fun _ _ _ hq => by show (seqOf _ j).map enumL = _; rw [seq_lst (gj.up hq.1)]; rfl) (fun n u acc S' hw hp => ?_) fun acc S' hp => ?_
  · obtain ⟨p5, rfl⟩ := hp
    have hn : n < ds.length + 1 := by
      have := (List.getElem?_eq_some_iff.mp hw).1
      rw [enumL_len] at this
      simpa [strsW, stepsL] using this
    have e1 : (strsW (stepsL w h l ds ds.length))[n]? = some (.str (txt (runN w h l (ds.take n)))) := by
      unfold strsW stepsL
      rw [List.getElem?_map, List.getElem?_map, List.getElem?_range hn]
      rfl
    rw [enumL_get, e1] at hw
    cases hw
    have fr := Fits.run (ds := ds.take n) f fun d' h' => hd d' (List.mem_of_mem_take h')
    have frl : (runN w h l (ds.take n)).length = l.length := by rw [fr.natLen, hl]
    have tlr : (runN w h l (ds.take n)).length ≤ sizeLine := by omega
    generalize hrn : runN w h l (ds.take n) = rn at *
    have fle := List.length_filter_le (fun k => decide (spell (runN w h l (ds.take k)) cs = t)) (List.range n)
    rw [List.length_range] at fle
    simp only [ho_ok, ho_ret, ho_bd, ho_bdI, ho_bdO, hos_nx, hos_rt, hos_bk, hos_ct, hos_onx, hos_ort, hos_exS, hos_exT, hos_exA, hos_exI, nxt_nx, nxt_rt, nxt_bk, nxt_ct, hos_seq, hos_asg, fin_nx, fin_rt, ho_body1, ho_body2, ho_body3, ho_body4, ho_meth, ho_bm, ho_prop, ho_if, hos_if, ho_and, ho_or, ho_andT, ho_orT, ho_ite, ho_chain, ret_d, ngW_b, blM_b, truM_b, getSl_0, getSl_s, lstM_d, tupM_d, add_ii, add_ss, sub_ii, mul_ii, fdiv_ii, mod_ii, pow_ii, lt_ii, le_ii, gt_ii, ge_ii, eq_ii, ne_ii, eq_ss, ne_ss, intM_i, lenM_t, ixM_t, seqV_s, seqV_t, partM_i, in_1, List.length_cons, List.length_nil, List.length_singleton, List.map_cons, List.map_nil, List.cons_append, List.nil_append, List.set_cons_zero, List.set_cons_succ, List.replicate_succ, List.replicate_zero, List.append_nil, Nat.reduceAdd, Nat.reduceSub, Nat.zero_add, Nat.sub_self, Nat.reduceEqDiff, Nat.reduceLeDiff, if_true, if_false, ite_true, ite_false, reduceIte, decide_true, decide_false, Bool.not_true, Bool.not_false, true_and, and_true, Tgt.g, wipeS, setAll, List.zip_cons_cons, List.zip_nil_right, List.zip_nil_left, List.foldl_cons, List.foldl_nil, tyN_str]
    rw [spell_lc (cs := cs) (l := rn) (fun c hc => by rw [frl]; exact h2 c hc) (by omega) fun c hc => ⟨_, rfl, by
      have a1 := str_at (l := rn) hc
      simp only [bd_d, getSl_s, getSl_0, List.set_cons_zero, List.set_cons_succ, ixM_s, txt_list, a1, txt_len, tlr, if_true]
      rfl⟩]
    have jn := join_sg (S := S' ++ [Ob.lst (sgW (spell rn cs))]) get_last (by rw [spell_len]; omega)
    have p6 := p5.trans (pre1 (o := Ob.lst (sgW (spell rn cs))))
    by_cases hq : spell rn cs = t
    · have dq : decide (txt (spell rn cs) = txt t) = true := by rw [txt_dec]; exact decide_eq_true hq
      simp only [ho_ok, ho_ret, ho_bd, ho_bdI, ho_bdO, hos_nx, hos_rt, hos_bk, hos_ct, hos_onx, hos_ort, hos_exS, hos_exT, hos_exA, hos_exI, nxt_nx, nxt_rt, nxt_bk, nxt_ct, hos_seq, hos_asg, fin_nx, fin_rt, ho_body1, ho_body2, ho_body3, ho_body4, ho_meth, ho_bm, ho_prop, ho_if, hos_if, ho_and, ho_or, ho_andT, ho_orT, ho_ite, ho_chain, ret_d, ngW_b, blM_b, truM_b, getSl_0, getSl_s, lstM_d, tupM_d, add_ii, add_ss, sub_ii, mul_ii, fdiv_ii, mod_ii, pow_ii, lt_ii, le_ii, gt_ii, ge_ii, eq_ii, ne_ii, eq_ss, ne_ss, intM_i, lenM_t, ixM_t, seqV_s, seqV_t, partM_i, in_1, List.length_cons, List.length_nil, List.length_singleton, List.map_cons, List.map_nil, List.cons_append, List.nil_append, List.set_cons_zero, List.set_cons_succ, List.replicate_succ, List.replicate_zero, List.append_nil, Nat.reduceAdd, Nat.reduceSub, Nat.zero_add, Nat.sub_self, Nat.reduceEqDiff, Nat.reduceLeDiff, if_true, if_false, ite_true, ite_false, reduceIte, decide_true, decide_false, Bool.not_true, Bool.not_false, true_and, and_true, jn, dq]
      refine ⟨by rw [nums_len]; omega, p6, ?_⟩
      rw [List.range_succ, List.filter_append, filt_t (p := fun k => decide (spell (runN w h l (ds.take k)) cs = t)) (by rw [hrn]; exact decide_eq_true hq), nums_app]
      rfl
    · have dq : decide (txt (spell rn cs) = txt t) = false := by rw [txt_dec]; exact decide_eq_false hq
      simp only [ho_ok, ho_ret, ho_bd, ho_bdI, ho_bdO, hos_nx, hos_rt, hos_bk, hos_ct, hos_onx, hos_ort, hos_exS, hos_exT, hos_exA, hos_exI, nxt_nx, nxt_rt, nxt_bk, nxt_ct, hos_seq, hos_asg, fin_nx, fin_rt, ho_body1, ho_body2, ho_body3, ho_body4, ho_meth, ho_bm, ho_prop, ho_if, hos_if, ho_and, ho_or, ho_andT, ho_orT, ho_ite, ho_chain, ret_d, ngW_b, blM_b, truM_b, getSl_0, getSl_s, lstM_d, tupM_d, add_ii, add_ss, sub_ii, mul_ii, fdiv_ii, mod_ii, pow_ii, lt_ii, le_ii, gt_ii, ge_ii, eq_ii, ne_ii, eq_ss, ne_ss, intM_i, lenM_t, ixM_t, seqV_s, seqV_t, partM_i, in_1, List.length_cons, List.length_nil, List.length_singleton, List.map_cons, List.map_nil, List.cons_append, List.nil_append, List.set_cons_zero, List.set_cons_succ, List.replicate_succ, List.replicate_zero, List.append_nil, Nat.reduceAdd, Nat.reduceSub, Nat.zero_add, Nat.sub_self, Nat.reduceEqDiff, Nat.reduceLeDiff, if_true, if_false, ite_true, ite_false, reduceIte, decide_true, decide_false, Bool.not_true, Bool.not_false, true_and, and_true, jn, dq]
      refine ⟨p6, ?_⟩
      rw [List.range_succ, List.filter_append, filt_f (p := fun k => decide (spell (runN w h l (ds.take k)) cs = t)) (by rw [hrn]; exact decide_eq_false hq), List.append_nil]
  · obtain ⟨p5, rfl⟩ := hp
    have e : (enumL (strsW (stepsL w h l ds ds.length))).length = ds.length + 1 := by rw [enumL_len]; simp [strsW, stepsL]
    rw [e]
    try simp only [ho_ok, ho_ret, ho_bd, ho_bdI, ho_bdO, hos_nx, hos_rt, hos_bk, hos_ct, hos_onx, hos_ort, hos_exS, hos_exT, hos_exA, hos_exI, nxt_nx, nxt_rt, nxt_bk, nxt_ct, hos_seq, hos_asg, fin_nx, fin_rt, ho_body1, ho_body2, ho_body3, ho_body4, ho_meth, ho_bm, ho_prop, ho_if, hos_if, ho_and, ho_or, ho_andT, ho_orT, ho_ite, ho_chain, ret_d, ngW_b, blM_b, truM_b, getSl_0, getSl_s, lstM_d, tupM_d, add_ii, add_ss, sub_ii, mul_ii, fdiv_ii, mod_ii, pow_ii, lt_ii, le_ii, gt_ii, ge_ii, eq_ii, ne_ii, eq_ss, ne_ss, intM_i, lenM_t, ixM_t, seqV_s, seqV_t, partM_i, in_1, List.length_cons, List.length_nil, List.length_singleton, List.map_cons, List.map_nil, List.cons_append, List.nil_append, List.set_cons_zero, List.set_cons_succ, List.replicate_succ, List.replicate_zero, List.append_nil, Nat.reduceAdd, Nat.reduceSub, Nat.zero_add, Nat.sub_self, Nat.reduceEqDiff, Nat.reduceLeDiff, if_true, if_false, ite_true, ite_false, reduceIte, decide_true, decide_false, Bool.not_true, Bool.not_false, true_and, and_true]
    exact ⟨_, rfl, (p0.trans p5).trans pre1, get_last⟩
end
end Lw


namespace Lw
open PySem L2 RP
theorem fold_rep (c : Nat) : ∀ (k : Nat) (acc : Array Nat), (List.replicate k #[c]).foldl (· ++ ·) acc = acc ++ (List.replicate k c).toArray
  | 0, acc => by simp
  | k + 1, acc => by
    rw [List.replicate_succ, List.foldl_cons, fold_rep c k, List.replicate_succ]
    apply Array.ext'
    rw [Array.toList_append, Array.toList_append, Array.toList_append, List.append_assoc]
    rfl
theorem mul_txt (c k : Nat) : Txt.mul (one c) (k : Int) = txt (List.replicate k c) := by
  unfold Txt.mul
  by_cases h : (k : Int) < 1
  · rw [if_pos h]
    have : k = 0 := by omega
    subst this
    rfl
  · rw [if_neg h]
    by_cases h1 : k = 1
    · subst h1
      rfl
    · have e : ((k : Int) == 1 || (one c).length == 0) = false := by
        have : ((k : Int) == 1) = false := beq_eq_false_iff_ne.mpr (by omega)
        rw [this]
        rfl
      rw [e]
      show (⟨(List.replicate (k : Int).toNat #[c]).foldl (· ++ ·) #[]⟩ : Str) = ⟨(List.replicate k c).toArray⟩
      rw [fold_rep, Int.toNat_natCast]
      simp
theorem mulS_ok {S : Sto} (c k : Nat) (hk : k ≤ 1000) : pyMulS (.str (one c)) (.int (k : Int)) S = .ok (.str (txt (List.replicate k c))) S := by
  show (if (one c).length ≤ 1000 ∧ (0 : Int) ≤ (k : Int) ∧ (k : Int) ≤ 1000 then Res.ok (W.str (Txt.mul (one c) (k : Int))) S else .bad) = _
  rw [if_pos ⟨by show 1 ≤ 1000; omega, by omega, by omega⟩, mul_txt]
theorem ways_924 : (spelled (List.replicate 12 97) (List.replicate 6 97)).length = 924 := by decide +kernel
theorem abcI : ∀ n < 4, ∃ c, (Str.ofString ".abc").cps.toList[n]? = some c ∧ c ∈ sgs := fun n hn => by
  obtain ⟨c, h1, h2, _⟩ := abc_in n hn
  exact ⟨c, h1, h2⟩
theorem law_ok {S : Sto} {sc : Nat} {ns : List Int} (h : S[sc]? = some (.scr ns)) : Ho (g_law [.ref sc] S) (fun v S' => v = .bl true) noX := by
  have hz2 := sizeLine_big
  have h4 : (4 : Nat) ≤ sizeLine := by omega
  have z0 : (0 : Nat) ≤ sizeLine := by omega
  have z1 : (1 : Nat) ≤ sizeLine := by omega
  have z2 : (2 : Nat) ≤ sizeLine := by omega
  have s4 : (Str.ofString ".abc").length ≤ sizeLine := by decide +kernel
  have hb : -(2 ^ 62) ≤ (3 : Int) ∧ (3 : Int) < 2 ^ 62 := ⟨by omega, by omega⟩
  have hne : sc ≠ S.length := by
    have := (List.getElem?_eq_some_iff.mp h).1
    omega
  have R0 : Row (S ++ [.lst [.ref sc, .int 0, .int 0, .int 0]]) S.length := ⟨sc, ns, 0, 0, 0, get_last, hne, get_app h, by omega⟩
  unfold g_law
  simp only [ho_ok, ho_ret, ho_bd, ho_bdI, ho_bdO, hos_nx, hos_rt, hos_bk, hos_ct, hos_onx, hos_ort, hos_exS, hos_exT, hos_exA, hos_exI, nxt_nx, nxt_rt, nxt_bk, nxt_ct, hos_seq, hos_asg, fin_nx, fin_rt, ho_body1, ho_body2, ho_body3, ho_body4, ho_meth, ho_bm, ho_prop, ho_if, hos_if, ho_and, ho_or, ho_andT, ho_orT, ho_ite, ho_chain, ret_d, ngW_b, blM_b, truM_b, getSl_0, getSl_s, lstM_d, tupM_d, add_ii, add_ss, sub_ii, mul_ii, fdiv_ii, mod_ii, pow_ii, lt_ii, le_ii, gt_ii, ge_ii, eq_ii, ne_ii, eq_ss, ne_ss, intM_i, lenM_t, ixM_t, seqV_s, seqV_t, partM_i, in_1, List.length_cons, List.length_nil, List.length_singleton, List.map_cons, List.map_nil, List.cons_append, List.nil_append, List.set_cons_zero, List.set_cons_succ, List.replicate_succ, List.replicate_zero, List.append_nil, Nat.reduceAdd, Nat.reduceSub, Nat.zero_add, Nat.sub_self, Nat.reduceEqDiff, Nat.reduceLeDiff, if_true, if_false, ite_true, ite_false, reduceIte, decide_true, decide_false, Bool.not_true, Bool.not_false, true_and, and_true, r_law, h4, rng1_i, hb]
  generalize S.length = r at R0 hne ⊢
  refine hos_for (ws := (List.range (3 : Int).toNat).map fun (i : Nat) => W.int i) (fun n sl S' => (∃ x2 x3 x4 x5 x6 x7 x8 x9 x10 x11 x12 x13 x14, sl = [some (.ref sc), some (.ref r), x2, x3, x4, x5, x6, x7, x8, x9, x10, x11, x12, x13, x14]) ∧ Row S' r) ⟨⟨_, _, _, _, _, _, _, _, _, _, _, _, _, rfl⟩, R0⟩ (fun _ _ _ _ => rfl) (fun n u sl S' hw hp => ?_) fun sl S' hp => ?_
  · obtain ⟨⟨x2, x3, x4, x5, x6, x7, x8, x9, x10, x11, x12, x13, x14, rfl⟩, R⟩ := hp
    (try rw [hos_seq]); (try simp only [ho_ok, ho_ret, ho_bd, ho_bdI, ho_bdO, hos_nx, hos_rt, hos_bk, hos_ct, hos_onx, hos_ort, hos_exS, hos_exT, hos_exA, hos_exI, nxt_nx, nxt_rt, nxt_bk, nxt_ct, hos_asg, fin_nx, fin_rt, ho_body1, ho_body2, ho_body3, ho_body4, ho_meth, ho_bm, ho_prop, ho_if, hos_if, ho_and, ho_or, ho_andT, ho_orT, ho_ite, ho_chain, ret_d, ngW_b, blM_b, truM_b, getSl_0, getSl_s, lstM_d, tupM_d, add_ii, add_ss, sub_ii, mul_ii, fdiv_ii, mod_ii, pow_ii, lt_ii, le_ii, gt_ii, ge_ii, eq_ii, ne_ii, eq_ss, ne_ss, intM_i, lenM_t, ixM_t, seqV_s, seqV_t, partM_i, in_1, List.length_cons, List.length_nil, List.length_singleton, List.map_cons, List.map_nil, List.cons_append, List.nil_append, List.set_cons_zero, List.set_cons_succ, List.replicate_succ, List.replicate_zero, List.append_nil, Nat.reduceAdd, Nat.reduceSub, Nat.zero_add, Nat.sub_self, Nat.reduceEqDiff, Nat.reduceLeDiff, if_true, if_false, ite_true, ite_false, reduceIte, decide_true, decide_false, Bool.not_true, Bool.not_false, true_and, and_true, Tgt.g])
    (try rw [hos_seq]); (try simp only [ho_ok, ho_ret, ho_bd, ho_bdI, ho_bdO, hos_nx, hos_rt, hos_bk, hos_ct, hos_onx, hos_ort, hos_exS, hos_exT, hos_exA, hos_exI, nxt_nx, nxt_rt, nxt_bk, nxt_ct, hos_asg, fin_nx, fin_rt, ho_body1, ho_body2, ho_body3, ho_body4, ho_meth, ho_bm, ho_prop, ho_if, hos_if, ho_and, ho_or, ho_andT, ho_orT, ho_ite, ho_chain, ret_d, ngW_b, blM_b, truM_b, getSl_0, getSl_s, lstM_d, tupM_d, add_ii, add_ss, sub_ii, mul_ii, fdiv_ii, mod_ii, pow_ii, lt_ii, le_ii, gt_ii, ge_ii, eq_ii, ne_ii, eq_ss, ne_ss, intM_i, lenM_t, ixM_t, seqV_s, seqV_t, partM_i, in_1, List.length_cons, List.length_nil, List.length_singleton, List.map_cons, List.map_nil, List.cons_append, List.nil_append, List.set_cons_zero, List.set_cons_succ, List.replicate_succ, List.replicate_zero, List.append_nil, Nat.reduceAdd, Nat.reduceSub, Nat.zero_add, Nat.sub_self, Nat.reduceEqDiff, Nat.reduceLeDiff, if_true, if_false, ite_true, ite_false, reduceIte, decide_true, decide_false, Bool.not_true, Bool.not_false, true_and, and_true])
    refine Ho.call (small_ok R) ?_
    rintro v S1 ⟨i, w', h', l, rfl, hi, f, hl6, hl0, hf4, b, R1, f1⟩
    obtain ⟨w, h, rfl, rfl⟩ := f.nat
    have l12 := f.l12
    (try rw [hos_seq]); (try simp only [ho_ok, ho_ret, ho_bd, ho_bdI, ho_bdO, hos_nx, hos_rt, hos_bk, hos_ct, hos_onx, hos_ort, hos_exS, hos_exT, hos_exA, hos_exI, nxt_nx, nxt_rt, nxt_bk, nxt_ct, hos_asg, fin_nx, fin_rt, ho_body1, ho_body2, ho_body3, ho_body4, ho_meth, ho_bm, ho_prop, ho_if, hos_if, ho_and, ho_or, ho_andT, ho_orT, ho_ite, ho_chain, ret_d, ngW_b, blM_b, truM_b, getSl_0, getSl_s, lstM_d, tupM_d, add_ii, add_ss, sub_ii, mul_ii, fdiv_ii, mod_ii, pow_ii, lt_ii, le_ii, gt_ii, ge_ii, eq_ii, ne_ii, eq_ss, ne_ss, intM_i, lenM_t, ixM_t, seqV_s, seqV_t, partM_i, in_1, List.length_cons, List.length_nil, List.length_singleton, List.map_cons, List.map_nil, List.cons_append, List.nil_append, List.set_cons_zero, List.set_cons_succ, List.replicate_succ, List.replicate_zero, List.append_nil, Nat.reduceAdd, Nat.reduceSub, Nat.zero_add, Nat.sub_self, Nat.reduceEqDiff, Nat.reduceLeDiff, if_true, if_false, ite_true, ite_false, reduceIte, decide_true, decide_false, Bool.not_true, Bool.not_false, true_and, and_true, tyN])
    (try rw [hos_seq]); (try simp only [ho_ok, ho_ret, ho_bd, ho_bdI, ho_bdO, hos_nx, hos_rt, hos_bk, hos_ct, hos_onx, hos_ort, hos_exS, hos_exT, hos_exA, hos_exI, nxt_nx, nxt_rt, nxt_bk, nxt_ct, hos_asg, fin_nx, fin_rt, ho_body1, ho_body2, ho_body3, ho_body4, ho_meth, ho_bm, ho_prop, ho_if, hos_if, ho_and, ho_or, ho_andT, ho_orT, ho_ite, ho_chain, ret_d, ngW_b, blM_b, truM_b, getSl_0, getSl_s, lstM_d, tupM_d, add_ii, add_ss, sub_ii, mul_ii, fdiv_ii, mod_ii, pow_ii, lt_ii, le_ii, gt_ii, ge_ii, eq_ii, ne_ii, eq_ss, ne_ss, intM_i, lenM_t, ixM_t, seqV_s, seqV_t, partM_i, in_1, List.length_cons, List.length_nil, List.length_singleton, List.map_cons, List.map_nil, List.cons_append, List.nil_append, List.set_cons_zero, List.set_cons_succ, List.replicate_succ, List.replicate_zero, List.append_nil, Nat.reduceAdd, Nat.reduceSub, Nat.zero_add, Nat.sub_self, Nat.reduceEqDiff, Nat.reduceLeDiff, if_true, if_false, ite_true, ite_false, reduceIte, decide_true, decide_false, Bool.not_true, Bool.not_false, true_and, and_true, tyN])
    refine Ho.call (taken_ok R1 (by decide) (by decide)) ?_
    rintro v S2 ⟨a, rfl, a0, a1, R2, f2, _⟩
    obtain ⟨a, rfl⟩ : ∃ n : Nat, a = n := ⟨a.toNat, by omega⟩
    have rb : -(2 ^ 62) ≤ (1 : Int) + (a : Nat) ∧ (1 : Int) + (a : Nat) < 2 ^ 62 := ⟨by omega, by omega⟩
    have b := b.fr R1 f2
    simp only [ho_ok, ho_ret, ho_bd, ho_bdI, ho_bdO, hos_nx, hos_rt, hos_bk, hos_ct, hos_onx, hos_ort, hos_exS, hos_exT, hos_exA, hos_exI, nxt_nx, nxt_rt, nxt_bk, nxt_ct, hos_asg, fin_nx, fin_rt, ho_body1, ho_body2, ho_body3, ho_body4, ho_meth, ho_bm, ho_prop, ho_if, hos_if, ho_and, ho_or, ho_andT, ho_orT, ho_ite, ho_chain, ret_d, ngW_b, blM_b, truM_b, getSl_0, getSl_s, lstM_d, tupM_d, add_ii, add_ss, sub_ii, mul_ii, fdiv_ii, mod_ii, pow_ii, lt_ii, le_ii, gt_ii, ge_ii, eq_ii, ne_ii, eq_ss, ne_ss, intM_i, lenM_t, ixM_t, seqV_s, seqV_t, partM_i, in_1, List.length_cons, List.length_nil, List.length_singleton, List.map_cons, List.map_nil, List.cons_append, List.nil_append, List.set_cons_zero, List.set_cons_succ, List.replicate_succ, List.replicate_zero, List.append_nil, Nat.reduceAdd, Nat.reduceSub, Nat.zero_add, Nat.sub_self, Nat.reduceEqDiff, Nat.reduceLeDiff, if_true, if_false, ite_true, ite_false, reduceIte, decide_true, decide_false, Bool.not_true, Bool.not_false, true_and, and_true, rng1_i, rb]
    refine ho_lc (ws := (List.range ((1 : Int) + (a : Nat)).toNat).map fun (i : Nat) => W.int i) (fun j acc S' => (∃ z : List Nat, acc = z.map (fun c => W.str (one c)) ∧ z.length = j ∧ (∀ c ∈ z, c ∈ sgs)) ∧ Row S' r ∧ Fr r S2 S') ⟨⟨[], rfl, rfl, by simp⟩, R2, Fr.refl⟩ (fun _ _ _ _ => rfl) (fun j u acc S' hw hp => ?_) fun acc S' hp => ?_
    · obtain ⟨⟨z, rfl, hz, hs⟩, R3, f3⟩ := hp
      have hj : j < ((1 : Int) + (a : Nat)).toNat := by
        have := (List.getElem?_eq_some_iff.mp hw).1
        simpa using this
      simp only [ho_ok, ho_ret, ho_bd, ho_bdI, ho_bdO, hos_nx, hos_rt, hos_bk, hos_ct, hos_onx, hos_ort, hos_exS, hos_exT, hos_exA, hos_exI, nxt_nx, nxt_rt, nxt_bk, nxt_ct, hos_seq, hos_asg, fin_nx, fin_rt, ho_body1, ho_body2, ho_body3, ho_body4, ho_meth, ho_bm, ho_prop, ho_if, hos_if, ho_and, ho_or, ho_andT, ho_orT, ho_ite, ho_chain, ret_d, ngW_b, blM_b, truM_b, getSl_0, getSl_s, lstM_d, tupM_d, add_ii, add_ss, sub_ii, mul_ii, fdiv_ii, mod_ii, pow_ii, lt_ii, le_ii, gt_ii, ge_ii, eq_ii, ne_ii, eq_ss, ne_ss, intM_i, lenM_t, ixM_t, seqV_s, seqV_t, partM_i, in_1, List.length_cons, List.length_nil, List.length_singleton, List.map_cons, List.map_nil, List.cons_append, List.nil_append, List.set_cons_zero, List.set_cons_succ, List.replicate_succ, List.replicate_zero, List.append_nil, Nat.reduceAdd, Nat.reduceSub, Nat.zero_add, Nat.sub_self, Nat.reduceEqDiff, Nat.reduceLeDiff, if_true, if_false, ite_true, ite_false, reduceIte, decide_true, decide_false, Bool.not_true, Bool.not_false, true_and, and_true, Tgt.g, wipeS]
      refine Ho.call (taken_ok R3 (by decide) (by decide)) ?_
      rintro v S4 ⟨c, rfl, c0, c1, R4, f4, _⟩
      obtain ⟨x, hx, hxs⟩ := abcI c.toNat (by omega)
      have e1 := atI_n hx
      rw [show ((c.toNat : Nat) : Int) = c by omega] at e1
      simp only [ho_ok, ho_ret, ho_bd, ho_bdI, ho_bdO, hos_nx, hos_rt, hos_bk, hos_ct, hos_onx, hos_ort, hos_exS, hos_exT, hos_exA, hos_exI, nxt_nx, nxt_rt, nxt_bk, nxt_ct, hos_seq, hos_asg, fin_nx, fin_rt, ho_body1, ho_body2, ho_body3, ho_body4, ho_meth, ho_bm, ho_prop, ho_if, hos_if, ho_and, ho_or, ho_andT, ho_orT, ho_ite, ho_chain, ret_d, ngW_b, blM_b, truM_b, getSl_0, getSl_s, lstM_d, tupM_d, add_ii, add_ss, sub_ii, mul_ii, fdiv_ii, mod_ii, pow_ii, lt_ii, le_ii, gt_ii, ge_ii, eq_ii, ne_ii, eq_ss, ne_ss, intM_i, lenM_t, ixM_t, seqV_s, seqV_t, partM_i, in_1, List.length_cons, List.length_nil, List.length_singleton, List.map_cons, List.map_nil, List.cons_append, List.nil_append, List.set_cons_zero, List.set_cons_succ, List.replicate_succ, List.replicate_zero, List.append_nil, Nat.reduceAdd, Nat.reduceSub, Nat.zero_add, Nat.sub_self, Nat.reduceEqDiff, Nat.reduceLeDiff, if_true, if_false, ite_true, ite_false, reduceIte, decide_true, decide_false, Bool.not_true, Bool.not_false, true_and, and_true, ixM_s, e1, s4]
      refine ⟨by simp; omega, ⟨z ++ [x], by simp [one], by simp [hz], fun y hy => ?_⟩, R4, f3.trans f4⟩
      rcases List.mem_append.mp hy with hy | hy
      · exact hs y hy
      · rw [List.mem_singleton.mp hy]; exact hxs
    · obtain ⟨⟨t, rfl, hz, hts⟩, R3, f3⟩ := hp
      have htl : t.length = 1 + a := by
        rw [hz]
        simp
        omega
      have tne : t ≠ [] := fun e => by rw [e] at htl; simp at htl; omega
      have b := b.fr R2 f3
      have g2 : (S' ++ [Ob.lst (sgW t)])[S'.length]? = some (.lst (sgW t)) := get_last
      have jn := join_sg g2 (by omega)
      have R3 := R3.up (pre1 (o := Ob.lst (sgW t)))
      have b : IsBath (S' ++ [Ob.lst (sgW t)]) i w h (txt l) := b.up (pre1 (o := Ob.lst (sgW t)))
      have esg : t.map (fun c => W.str (one c)) = sgW t := rfl
      rw [esg]
      simp only [ho_ok, ho_ret, ho_bd, ho_bdI, ho_bdO, hos_nx, hos_rt, hos_bk, hos_ct, hos_onx, hos_ort, hos_exS, hos_exT, hos_exA, hos_exI, nxt_nx, nxt_rt, nxt_bk, nxt_ct, hos_asg, fin_nx, fin_rt, ho_body1, ho_body2, ho_body3, ho_body4, ho_meth, ho_bm, ho_prop, ho_if, hos_if, ho_and, ho_or, ho_andT, ho_orT, ho_ite, ho_chain, ret_d, ngW_b, blM_b, truM_b, getSl_0, getSl_s, lstM_d, tupM_d, add_ii, add_ss, sub_ii, mul_ii, fdiv_ii, mod_ii, pow_ii, lt_ii, le_ii, gt_ii, ge_ii, eq_ii, ne_ii, eq_ss, ne_ss, intM_i, lenM_t, ixM_t, seqV_s, seqV_t, partM_i, in_1, List.length_cons, List.length_nil, List.length_singleton, List.map_cons, List.map_nil, List.cons_append, List.nil_append, List.set_cons_zero, List.set_cons_succ, List.replicate_succ, List.replicate_zero, List.append_nil, Nat.reduceAdd, Nat.reduceSub, Nat.zero_add, Nat.sub_self, Nat.reduceEqDiff, Nat.reduceLeDiff, if_true, if_false, ite_true, ite_false, reduceIte, decide_true, decide_false, Bool.not_true, Bool.not_false, true_and, and_true, jn]
      generalize S' ++ [Ob.lst (sgW t)] = S4 at R3 b ⊢
      rw [hos_seq]
      simp only [ho_ok, ho_ret, ho_bd, ho_bdI, ho_bdO, hos_nx, hos_rt, hos_bk, hos_ct, hos_onx, hos_ort, hos_exS, hos_exT, hos_exA, hos_exI, nxt_nx, nxt_rt, nxt_bk, nxt_ct, hos_asg, fin_nx, fin_rt, ho_body1, ho_body2, ho_body3, ho_body4, ho_meth, ho_bm, ho_prop, ho_if, hos_if, ho_and, ho_or, ho_andT, ho_orT, ho_ite, ho_chain, ret_d, ngW_b, blM_b, truM_b, getSl_0, getSl_s, lstM_d, tupM_d, add_ii, add_ss, sub_ii, mul_ii, fdiv_ii, mod_ii, pow_ii, lt_ii, le_ii, gt_ii, ge_ii, eq_ii, ne_ii, eq_ss, ne_ss, intM_i, lenM_t, ixM_t, seqV_s, seqV_t, partM_i, in_1, List.length_cons, List.length_nil, List.length_singleton, List.map_cons, List.map_nil, List.cons_append, List.nil_append, List.set_cons_zero, List.set_cons_succ, List.replicate_succ, List.replicate_zero, List.append_nil, Nat.reduceAdd, Nat.reduceSub, Nat.zero_add, Nat.sub_self, Nat.reduceEqDiff, Nat.reduceLeDiff, if_true, if_false, ite_true, ite_false, reduceIte, decide_true, decide_false, Bool.not_true, Bool.not_false, true_and, and_true, len_ok f b]
      refine Ho.call (subsets_ok l.length hl6 S4) ?_
      rintro v S5 ⟨k, rfl, p5, gk⟩
      try replace sc := sc.up p5
      try replace ns := ns.up p5
      try replace hz2 := hz2.up p5
      try replace h4 := h4.up p5
      try replace z0 := z0.up p5
      try replace z1 := z1.up p5
      try replace z2 := z2.up p5
      try replace s4 := s4.up p5
      try replace hb := hb.up p5
      try replace hne := hne.up p5
      try replace R0 := R0.up p5
      try replace R := R.up p5
      try replace i := i.up p5
      try replace w' := w'.up p5
      try replace h' := h'.up p5
      try replace l := l.up p5
      try replace hi := hi.up p5
      try replace f := f.up p5
      try replace hl6 := hl6.up p5
      try replace hl0 := hl0.up p5
      try replace hf4 := hf4.up p5
      try replace R1 := R1.up p5
      try replace f1 := f1.up p5
      try replace w := w.up p5
      try replace h := h.up p5
      try replace l12 := l12.up p5
      try replace a0 := a0.up p5
      try replace a1 := a1.up p5
      try replace R2 := R2.up p5
      try replace f2 := f2.up p5
      try replace Nat := Nat.up p5
      try replace a := a.up p5
      try replace n := n.up p5
      try replace rb := rb.up p5
      try replace z := z.up p5
      try replace hs := hs.up p5
      try replace hj := hj.up p5
      try replace c := c.up p5
      try replace c0 := c0.up p5
      try replace c1 := c1.up p5
      try replace R4 := R4.up p5
      try replace f4 := f4.up p5
      try replace hx := hx.up p5
      try replace hxs := hxs.up p5
      try replace e1 := e1.up p5
      try replace t := t.up p5
      try replace hz := hz.up p5
      try replace hts := hts.up p5
      try replace f3 := f3.up p5
      try replace htl := htl.up p5
      try replace tne := tne.up p5
      try replace g2 := g2.up p5
      try replace jn := jn.up p5
      try replace R3 := R3.up p5
      try replace b := b.up p5
      try replace esg := esg.up p5
      try replace k := k.up p5
      try replace gk := gk.up p5
      simp only [ho_ok, ho_ret, ho_bd, ho_bdI, ho_bdO, hos_nx, hos_rt, hos_bk, hos_ct, hos_onx, hos_ort, hos_exS, hos_exT, hos_exA, hos_exI, nxt_nx, nxt_rt, nxt_bk, nxt_ct, hos_asg, fin_nx, fin_rt, ho_body1, ho_body2, ho_body3, ho_body4, ho_meth, ho_bm, ho_prop, ho_if, hos_if, ho_and, ho_or, ho_andT, ho_orT, ho_ite, ho_chain, ret_d, ngW_b, blM_b, truM_b, getSl_0, getSl_s, lstM_d, tupM_d, add_ii, add_ss, sub_ii, mul_ii, fdiv_ii, mod_ii, pow_ii, lt_ii, le_ii, gt_ii, ge_ii, eq_ii, ne_ii, eq_ss, ne_ss, intM_i, lenM_t, ixM_t, seqV_s, seqV_t, partM_i, in_1, List.length_cons, List.length_nil, List.length_singleton, List.map_cons, List.map_nil, List.cons_append, List.nil_append, List.set_cons_zero, List.set_cons_succ, List.replicate_succ, List.replicate_zero, List.append_nil, Nat.reduceAdd, Nat.reduceSub, Nat.zero_add, Nat.sub_self, Nat.reduceEqDiff, Nat.reduceLeDiff, if_true, if_false, ite_true, ite_false, reduceIte, decide_true, decide_false, Bool.not_true, Bool.not_false, true_and, and_true, seqV_r (seq_lst gk)]
      refine ho_lc (ws := (subs l.length).map tupN) (fun n acc S' => S5 <+: S' ∧ acc = (((subs l.length).take n).filter fun s => decide (spell l s = t)).map tupN) ⟨List.prefix_refl _, rfl⟩ (fun _ _ _ h => seq_lst (Ext.get h.1 gk)) (fun n u acc S8 hw hp => ?_) fun acc S8 hp => ?_
      · obtain ⟨p8, rfl⟩ := hp
        obtain ⟨s, hs, rfl⟩ := map_at hw
        have hsm := subs_ok _ s (List.mem_of_getElem? hs)
        have b8 := b.up p8
        have nl : (((subs l.length).take n).filter fun s => decide (spell l s = t)).length ≤ 64 := by
          have h1 := List.length_filter_le (fun s => decide (spell l s = t)) ((subs l.length).take n)
          rw [List.length_take, subs_len] at h1
          have h2 : 2 ^ l.length ≤ 2 ^ 6 := Nat.pow_le_pow_right (by omega) hl6
          omega
        have tk : (subs l.length).take (n + 1) = (subs l.length).take n ++ [s] := by rw [List.take_add_one, hs]; rfl
        have tll : l.length ≤ sizeLine := by omega
        simp only [ho_ok, ho_ret, ho_bd, ho_bdI, ho_bdO, hos_nx, hos_rt, hos_bk, hos_ct, hos_onx, hos_ort, hos_exS, hos_exT, hos_exA, hos_exI, nxt_nx, nxt_rt, nxt_bk, nxt_ct, hos_seq, hos_asg, fin_nx, fin_rt, ho_body1, ho_body2, ho_body3, ho_body4, ho_meth, ho_bm, ho_prop, ho_if, hos_if, ho_and, ho_or, ho_andT, ho_orT, ho_ite, ho_chain, ret_d, ngW_b, blM_b, truM_b, getSl_0, getSl_s, lstM_d, tupM_d, add_ii, add_ss, sub_ii, mul_ii, fdiv_ii, mod_ii, pow_ii, lt_ii, le_ii, gt_ii, ge_ii, eq_ii, ne_ii, eq_ss, ne_ss, intM_i, lenM_t, ixM_t, seqV_s, seqV_t, partM_i, in_1, List.length_cons, List.length_nil, List.length_singleton, List.map_cons, List.map_nil, List.cons_append, List.nil_append, List.set_cons_zero, List.set_cons_succ, List.replicate_succ, List.replicate_zero, List.append_nil, Nat.reduceAdd, Nat.reduceSub, Nat.zero_add, Nat.sub_self, Nat.reduceEqDiff, Nat.reduceLeDiff, if_true, if_false, ite_true, ite_false, reduceIte, decide_true, decide_false, Bool.not_true, Bool.not_false, true_and, and_true, Tgt.g, wipeS, tupN, tyN_str]
        rw [spell_lc (cs := s) (l := l) hsm.2.1 (by omega) fun c hc => ⟨_, rfl, by
          have a1 := str_at (l := l) hc
          simp only [bd_d, getSl_s, getSl_0, List.set_cons_zero, List.set_cons_succ, propM_d, b8.cls, if_true, cells_ok b8, ixM_s, txt_list, a1, txt_len, tll]
          rfl⟩]
        have jn := join_sg (S := S8 ++ [Ob.lst (sgW (spell l s))]) get_last (by rw [spell_len]; omega)
        by_cases hq : spell l s = t
        · have dq : decide (txt (spell l s) = txt t) = true := by rw [txt_dec]; exact decide_eq_true hq
          simp only [ho_ok, ho_ret, ho_bd, ho_bdI, ho_bdO, hos_nx, hos_rt, hos_bk, hos_ct, hos_onx, hos_ort, hos_exS, hos_exT, hos_exA, hos_exI, nxt_nx, nxt_rt, nxt_bk, nxt_ct, hos_seq, hos_asg, fin_nx, fin_rt, ho_body1, ho_body2, ho_body3, ho_body4, ho_meth, ho_bm, ho_prop, ho_if, hos_if, ho_and, ho_or, ho_andT, ho_orT, ho_ite, ho_chain, ret_d, ngW_b, blM_b, truM_b, getSl_0, getSl_s, lstM_d, tupM_d, add_ii, add_ss, sub_ii, mul_ii, fdiv_ii, mod_ii, pow_ii, lt_ii, le_ii, gt_ii, ge_ii, eq_ii, ne_ii, eq_ss, ne_ss, intM_i, lenM_t, ixM_t, seqV_s, seqV_t, partM_i, in_1, List.length_cons, List.length_nil, List.length_singleton, List.map_cons, List.map_nil, List.cons_append, List.nil_append, List.set_cons_zero, List.set_cons_succ, List.replicate_succ, List.replicate_zero, List.append_nil, Nat.reduceAdd, Nat.reduceSub, Nat.zero_add, Nat.sub_self, Nat.reduceEqDiff, Nat.reduceLeDiff, if_true, if_false, ite_true, ite_false, reduceIte, decide_true, decide_false, Bool.not_true, Bool.not_false, true_and, and_true, jn, dq]
          refine ⟨by rw [List.length_map]; omega, p8.trans pre1, ?_⟩
          rw [tk, List.filter_append, filt_t (p := fun s => decide (spell l s = t)) (decide_eq_true hq), List.map_append]
          rfl
        · have dq : decide (txt (spell l s) = txt t) = false := by rw [txt_dec]; exact decide_eq_false hq
          simp only [ho_ok, ho_ret, ho_bd, ho_bdI, ho_bdO, hos_nx, hos_rt, hos_bk, hos_ct, hos_onx, hos_ort, hos_exS, hos_exT, hos_exA, hos_exI, nxt_nx, nxt_rt, nxt_bk, nxt_ct, hos_seq, hos_asg, fin_nx, fin_rt, ho_body1, ho_body2, ho_body3, ho_body4, ho_meth, ho_bm, ho_prop, ho_if, hos_if, ho_and, ho_or, ho_andT, ho_orT, ho_ite, ho_chain, ret_d, ngW_b, blM_b, truM_b, getSl_0, getSl_s, lstM_d, tupM_d, add_ii, add_ss, sub_ii, mul_ii, fdiv_ii, mod_ii, pow_ii, lt_ii, le_ii, gt_ii, ge_ii, eq_ii, ne_ii, eq_ss, ne_ss, intM_i, lenM_t, ixM_t, seqV_s, seqV_t, partM_i, in_1, List.length_cons, List.length_nil, List.length_singleton, List.map_cons, List.map_nil, List.cons_append, List.nil_append, List.set_cons_zero, List.set_cons_succ, List.replicate_succ, List.replicate_zero, List.append_nil, Nat.reduceAdd, Nat.reduceSub, Nat.zero_add, Nat.sub_self, Nat.reduceEqDiff, Nat.reduceLeDiff, if_true, if_false, ite_true, ite_false, reduceIte, decide_true, decide_false, Bool.not_true, Bool.not_false, true_and, and_true, jn, dq]
          refine ⟨p8.trans pre1, ?_⟩
          rw [tk, List.filter_append, filt_f (p := fun s => decide (spell l s = t)) (decide_eq_false hq), List.append_nil]
      · obtain ⟨p8, rfl⟩ := hp
        rw [List.length_map, List.take_length]
        have ew : (subs l.length).filter (fun s => decide (spell l s = t)) = spelled l t := rfl
        rw [ew]
        have g8 : (S8 ++ [Ob.lst ((spelled l t).map tupN)])[S8.length]? = some (.lst ((spelled l t).map tupN)) := get_last
        have p9 : S8 <+: S8 ++ [Ob.lst ((spelled l t).map tupN)] := pre1
        have p8 := p8.trans p9
        generalize S8 ++ [Ob.lst ((spelled l t).map tupN)] = S9 at g8 p8 ⊢
        generalize S8.length = kb at g8 ⊢
        try replace sc := sc.up p8
        try replace ns := ns.up p8
        try replace hz2 := hz2.up p8
        try replace h4 := h4.up p8
        try replace z0 := z0.up p8
        try replace z1 := z1.up p8
        try replace z2 := z2.up p8
        try replace s4 := s4.up p8
        try replace hb := hb.up p8
        try replace hne := hne.up p8
        try replace R0 := R0.up p8
        try replace R := R.up p8
        try replace i := i.up p8
        try replace w' := w'.up p8
        try replace h' := h'.up p8
        try replace l := l.up p8
        try replace hi := hi.up p8
        try replace f := f.up p8
        try replace hl6 := hl6.up p8
        try replace hl0 := hl0.up p8
        try replace hf4 := hf4.up p8
        try replace R1 := R1.up p8
        try replace f1 := f1.up p8
        try replace w := w.up p8
        try replace h := h.up p8
        try replace l12 := l12.up p8
        try replace a0 := a0.up p8
        try replace R2 := R2.up p8
        try replace f2 := f2.up p8
        try replace Nat := Nat.up p8
        try replace a := a.up p8
        try replace n := n.up p8
        try replace rb := rb.up p8
        try replace z := z.up p8
        try replace hj := hj.up p8
        try replace c := c.up p8
        try replace c0 := c0.up p8
        try replace c1 := c1.up p8
        try replace R4 := R4.up p8
        try replace f4 := f4.up p8
        try replace hx := hx.up p8
        try replace hxs := hxs.up p8
        try replace e1 := e1.up p8
        try replace t := t.up p8
        try replace hz := hz.up p8
        try replace hts := hts.up p8
        try replace f3 := f3.up p8
        try replace htl := htl.up p8
        try replace tne := tne.up p8
        try replace g2 := g2.up p8
        try replace R3 := R3.up p8
        try replace b := b.up p8
        try replace esg := esg.up p8
        try replace k := k.up p8
        try replace p5 := p5.up p8
        try replace gk := gk.up p8
        try replace s := s.up p8
        try replace hs := hs.up p8
        try replace hsm := hsm.up p8
        try replace b8 := b8.up p8
        try replace nl := nl.up p8
        try replace h1 := h1.up p8
        try replace h2 := h2.up p8
        try replace tk := tk.up p8
        try replace tll := tll.up p8
        try replace a1 := a1.up p8
        try replace jn := jn.up p8
        try replace dq := dq.up p8
        try replace ew := ew.up p8
        try replace g8 := g8.up p8
        try replace p9 := p9.up p8
        try simp only [ho_ok, ho_ret, ho_bd, ho_bdI, ho_bdO, hos_nx, hos_rt, hos_bk, hos_ct, hos_onx, hos_ort, hos_exS, hos_exT, hos_exA, hos_exI, nxt_nx, nxt_rt, nxt_bk, nxt_ct, hos_asg, fin_nx, fin_rt, ho_body1, ho_body2, ho_body3, ho_body4, ho_meth, ho_bm, ho_prop, ho_if, hos_if, ho_and, ho_or, ho_andT, ho_orT, ho_ite, ho_chain, ret_d, ngW_b, blM_b, truM_b, getSl_0, getSl_s, lstM_d, tupM_d, add_ii, add_ss, sub_ii, mul_ii, fdiv_ii, mod_ii, pow_ii, lt_ii, le_ii, gt_ii, ge_ii, eq_ii, ne_ii, eq_ss, ne_ss, intM_i, lenM_t, ixM_t, seqV_s, seqV_t, partM_i, in_1, List.length_cons, List.length_nil, List.length_singleton, List.map_cons, List.map_nil, List.cons_append, List.nil_append, List.set_cons_zero, List.set_cons_succ, List.replicate_succ, List.replicate_zero, List.append_nil, Nat.reduceAdd, Nat.reduceSub, Nat.zero_add, Nat.sub_self, Nat.reduceEqDiff, Nat.reduceLeDiff, if_true, if_false, ite_true, ite_false, reduceIte, decide_true, decide_false, Bool.not_true, Bool.not_false, true_and, and_true]
        rw [hos_seq, hos_exT]
        refine Ho.call (Q := fun b S' => b = false ∧ S9 <+: S') ?_ ?_
        · simp only [ho_ok, ho_ret, ho_bd, ho_bdI, ho_bdO, hos_nx, hos_rt, hos_bk, hos_ct, hos_onx, hos_ort, hos_exS, hos_exT, hos_exA, hos_exI, nxt_nx, nxt_rt, nxt_bk, nxt_ct, hos_seq, hos_asg, fin_nx, fin_rt, ho_body1, ho_body2, ho_body3, ho_body4, ho_meth, ho_bm, ho_prop, ho_if, hos_if, ho_and, ho_or, ho_andT, ho_orT, ho_ite, ho_chain, ret_d, ngW_b, blM_b, truM_b, getSl_0, getSl_s, lstM_d, tupM_d, add_ii, add_ss, sub_ii, mul_ii, fdiv_ii, mod_ii, pow_ii, lt_ii, le_ii, gt_ii, ge_ii, eq_ii, ne_ii, eq_ss, ne_ss, intM_i, lenM_t, ixM_t, seqV_s, seqV_t, partM_i, in_1, List.length_cons, List.length_nil, List.length_singleton, List.map_cons, List.map_nil, List.cons_append, List.nil_append, List.set_cons_zero, List.set_cons_succ, List.replicate_succ, List.replicate_zero, List.append_nil, Nat.reduceAdd, Nat.reduceSub, Nat.zero_add, Nat.sub_self, Nat.reduceEqDiff, Nat.reduceLeDiff, if_true, if_false, ite_true, ite_false, reduceIte, decide_true, decide_false, Bool.not_true, Bool.not_false, true_and, and_true]
          refine Ho.call (paper_count_ok f b tne hts (by omega)) ?_
          rintro v Sa ⟨rfl, pa⟩
          have pz : S9 <+: S9 := List.prefix_refl _
          try replace sc := sc.up pa
          try replace ns := ns.up pa
          try replace hz2 := hz2.up pa
          try replace h4 := h4.up pa
          try replace z0 := z0.up pa
          try replace z1 := z1.up pa
          try replace z2 := z2.up pa
          try replace s4 := s4.up pa
          try replace hb := hb.up pa
          try replace hne := hne.up pa
          try replace R0 := R0.up pa
          try replace R := R.up pa
          try replace i := i.up pa
          try replace w' := w'.up pa
          try replace h' := h'.up pa
          try replace l := l.up pa
          try replace hi := hi.up pa
          try replace f := f.up pa
          try replace hl6 := hl6.up pa
          try replace hl0 := hl0.up pa
          try replace hf4 := hf4.up pa
          try replace R1 := R1.up pa
          try replace f1 := f1.up pa
          try replace w := w.up pa
          try replace h := h.up pa
          try replace l12 := l12.up pa
          try replace a0 := a0.up pa
          try replace R2 := R2.up pa
          try replace f2 := f2.up pa
          try replace Nat := Nat.up pa
          try replace a := a.up pa
          try replace n := n.up pa
          try replace rb := rb.up pa
          try replace z := z.up pa
          try replace hj := hj.up pa
          try replace c := c.up pa
          try replace c0 := c0.up pa
          try replace c1 := c1.up pa
          try replace R4 := R4.up pa
          try replace f4 := f4.up pa
          try replace hx := hx.up pa
          try replace hxs := hxs.up pa
          try replace e1 := e1.up pa
          try replace t := t.up pa
          try replace hz := hz.up pa
          try replace hts := hts.up pa
          try replace f3 := f3.up pa
          try replace htl := htl.up pa
          try replace tne := tne.up pa
          try replace g2 := g2.up pa
          try replace R3 := R3.up pa
          try replace b := b.up pa
          try replace esg := esg.up pa
          try replace k := k.up pa
          try replace p5 := p5.up pa
          try replace gk := gk.up pa
          try replace s := s.up pa
          try replace hs := hs.up pa
          try replace hsm := hsm.up pa
          try replace b8 := b8.up pa
          try replace nl := nl.up pa
          try replace h1 := h1.up pa
          try replace h2 := h2.up pa
          try replace tk := tk.up pa
          try replace tll := tll.up pa
          try replace a1 := a1.up pa
          try replace jn := jn.up pa
          try replace dq := dq.up pa
          try replace ew := ew.up pa
          try replace g8 := g8.up pa
          try replace p9 := p9.up pa
          try replace p8 := p8.up pa
          try replace pz := pz.up pa
          simp only [ho_ok, ho_ret, ho_bd, ho_bdI, ho_bdO, hos_nx, hos_rt, hos_bk, hos_ct, hos_onx, hos_ort, hos_exS, hos_exT, hos_exA, hos_exI, nxt_nx, nxt_rt, nxt_bk, nxt_ct, hos_seq, hos_asg, fin_nx, fin_rt, ho_body1, ho_body2, ho_body3, ho_body4, ho_meth, ho_bm, ho_prop, ho_if, hos_if, ho_and, ho_or, ho_andT, ho_orT, ho_ite, ho_chain, ret_d, ngW_b, blM_b, truM_b, getSl_0, getSl_s, lstM_d, tupM_d, add_ii, add_ss, sub_ii, mul_ii, fdiv_ii, mod_ii, pow_ii, lt_ii, le_ii, gt_ii, ge_ii, eq_ii, ne_ii, eq_ss, ne_ss, intM_i, lenM_t, ixM_t, seqV_s, seqV_t, partM_i, in_1, List.length_cons, List.length_nil, List.length_singleton, List.map_cons, List.map_nil, List.cons_append, List.nil_append, List.set_cons_zero, List.set_cons_succ, List.replicate_succ, List.replicate_zero, List.append_nil, Nat.reduceAdd, Nat.reduceSub, Nat.zero_add, Nat.sub_self, Nat.reduceEqDiff, Nat.reduceLeDiff, if_true, if_false, ite_true, ite_false, reduceIte, decide_true, decide_false, Bool.not_true, Bool.not_false, true_and, and_true, lenM_r (seq_lst g8), List.length_map]
          refine Ho.call (first_paper_ok f b tne hts (by omega)) ?_
          rintro v Sb ⟨rfl, pb⟩
          try replace sc := sc.up pb
          try replace ns := ns.up pb
          try replace hz2 := hz2.up pb
          try replace h4 := h4.up pb
          try replace z0 := z0.up pb
          try replace z1 := z1.up pb
          try replace z2 := z2.up pb
          try replace s4 := s4.up pb
          try replace hb := hb.up pb
          try replace hne := hne.up pb
          try replace R0 := R0.up pb
          try replace R := R.up pb
          try replace i := i.up pb
          try replace w' := w'.up pb
          try replace h' := h'.up pb
          try replace l := l.up pb
          try replace hi := hi.up pb
          try replace f := f.up pb
          try replace hl6 := hl6.up pb
          try replace hl0 := hl0.up pb
          try replace hf4 := hf4.up pb
          try replace R1 := R1.up pb
          try replace f1 := f1.up pb
          try replace w := w.up pb
          try replace h := h.up pb
          try replace l12 := l12.up pb
          try replace a0 := a0.up pb
          try replace R2 := R2.up pb
          try replace f2 := f2.up pb
          try replace Nat := Nat.up pb
          try replace a := a.up pb
          try replace n := n.up pb
          try replace rb := rb.up pb
          try replace z := z.up pb
          try replace hj := hj.up pb
          try replace c := c.up pb
          try replace c0 := c0.up pb
          try replace c1 := c1.up pb
          try replace R4 := R4.up pb
          try replace f4 := f4.up pb
          try replace hx := hx.up pb
          try replace hxs := hxs.up pb
          try replace e1 := e1.up pb
          try replace t := t.up pb
          try replace hz := hz.up pb
          try replace hts := hts.up pb
          try replace f3 := f3.up pb
          try replace htl := htl.up pb
          try replace tne := tne.up pb
          try replace g2 := g2.up pb
          try replace R3 := R3.up pb
          try replace b := b.up pb
          try replace esg := esg.up pb
          try replace k := k.up pb
          try replace p5 := p5.up pb
          try replace gk := gk.up pb
          try replace s := s.up pb
          try replace hs := hs.up pb
          try replace hsm := hsm.up pb
          try replace b8 := b8.up pb
          try replace nl := nl.up pb
          try replace h1 := h1.up pb
          try replace h2 := h2.up pb
          try replace tk := tk.up pb
          try replace tll := tll.up pb
          try replace a1 := a1.up pb
          try replace jn := jn.up pb
          try replace dq := dq.up pb
          try replace ew := ew.up pb
          try replace g8 := g8.up pb
          try replace p9 := p9.up pb
          try replace p8 := p8.up pb
          try replace pa := pa.up pb
          try replace pz := pz.up pb
          have ne := ne_nil (S := Sb ++ [Ob.lst []]) (n := 1) (f := tupN) (g := dN) (l := spelled l t) (get_app g8) (fun a _ => nums_dm (n := 0) a) (by omega) get_last
          by_cases hem : spelled l t = []
          · have hng : ¬ (gr l t l.length).length = t.length := fun e => by
              have := first_none e
              rw [hem] at this
              cases this
            have nn : pyNe .non .non (Sb ++ [Ob.lst []]) = .ok (.bl false) (Sb ++ [Ob.lst []]) := Dm.sameN Dm.non Dm.non
            have he : (spelled l t).isEmpty = true := by rw [hem]; rfl
            simp only [ho_ok, ho_ret, ho_bd, ho_bdI, ho_bdO, hos_nx, hos_rt, hos_bk, hos_ct, hos_onx, hos_ort, hos_exS, hos_exT, hos_exA, hos_exI, nxt_nx, nxt_rt, nxt_bk, nxt_ct, hos_seq, hos_asg, fin_nx, fin_rt, ho_body1, ho_body2, ho_body3, ho_body4, ho_meth, ho_bm, ho_prop, ho_if, hos_if, ho_and, ho_or, ho_andT, ho_orT, ho_ite, ho_chain, ret_d, ngW_b, blM_b, truM_b, getSl_0, getSl_s, lstM_d, tupM_d, add_ii, add_ss, sub_ii, mul_ii, fdiv_ii, mod_ii, pow_ii, lt_ii, le_ii, gt_ii, ge_ii, eq_ii, ne_ii, eq_ss, ne_ss, intM_i, lenM_t, ixM_t, seqV_s, seqV_t, partM_i, in_1, List.length_cons, List.length_nil, List.length_singleton, List.map_cons, List.map_nil, List.cons_append, List.nil_append, List.set_cons_zero, List.set_cons_succ, List.replicate_succ, List.replicate_zero, List.append_nil, Nat.reduceAdd, Nat.reduceSub, Nat.zero_add, Nat.sub_self, Nat.reduceEqDiff, Nat.reduceLeDiff, if_true, if_false, ite_true, ite_false, reduceIte, decide_true, decide_false, Bool.not_true, Bool.not_false, true_and, and_true, hng, z0, ne, he, nn]
            exact pz.trans pre1
          · obtain ⟨s0, hs0⟩ := List.exists_mem_of_ne_nil _ hem
            obtain ⟨e1, e2, e3, e4⟩ := first_some hs0
            have he : (spelled l t).isEmpty = false := by
              cases q : spelled l t with
              | nil => exact absurd q hem
              | cons => rfl
            have mn := minM_r (S := Sb ++ [Ob.lst []]) (n := 1) (f := tupN) (g := dN) (l := spelled l t) (a := gr l t l.length) (get_app g8) (fun a _ => nums_dm (n := 0) a) (by omega) (fun a _ b _ => alike_dN a b) (fun a _ => by unfold dN; exact fun z => nomatch z) e3 (fun s hs => by
              obtain ⟨_, _, _, q4⟩ := first_some hs
              have hsl : s.length = t.length := by
                have := congrArg List.length (spelled_mem.mp hs).2
                rwa [spell_len] at this
              rcases lexN_le (a := gr l t l.length) (b := s) (by omega) (fun j hj => q4 j (by omega)) with e | e
              · exact .inl e
              · right
                rw [lt_dN, lt_dN]
                exact e)
            have sm : pyNe (.tup (nums (gr l t l.length))) (.tup (nums (gr l t l.length))) (Sb ++ [Ob.lst []]) = .ok (.bl false) (Sb ++ [Ob.lst []]) := Dm.sameN ((nums_dm (n := 0) _).at9 (by omega)) ((nums_dm (n := 0) _).at9 (by omega))
            unfold tupN at mn
            simp only [ho_ok, ho_ret, ho_bd, ho_bdI, ho_bdO, hos_nx, hos_rt, hos_bk, hos_ct, hos_onx, hos_ort, hos_exS, hos_exT, hos_exA, hos_exI, nxt_nx, nxt_rt, nxt_bk, nxt_ct, hos_seq, hos_asg, fin_nx, fin_rt, ho_body1, ho_body2, ho_body3, ho_body4, ho_meth, ho_bm, ho_prop, ho_if, hos_if, ho_and, ho_or, ho_andT, ho_orT, ho_ite, ho_chain, ret_d, ngW_b, blM_b, truM_b, getSl_0, getSl_s, lstM_d, tupM_d, add_ii, add_ss, sub_ii, mul_ii, fdiv_ii, mod_ii, pow_ii, lt_ii, le_ii, gt_ii, ge_ii, eq_ii, ne_ii, eq_ss, ne_ss, intM_i, lenM_t, ixM_t, seqV_s, seqV_t, partM_i, in_1, List.length_cons, List.length_nil, List.length_singleton, List.map_cons, List.map_nil, List.cons_append, List.nil_append, List.set_cons_zero, List.set_cons_succ, List.replicate_succ, List.replicate_zero, List.append_nil, Nat.reduceAdd, Nat.reduceSub, Nat.zero_add, Nat.sub_self, Nat.reduceEqDiff, Nat.reduceLeDiff, if_true, if_false, ite_true, ite_false, reduceIte, decide_true, decide_false, Bool.not_true, Bool.not_false, true_and, and_true, e1, z0, ne, he, mn, sm]
            exact pz.trans pre1
        · rintro v Sa ⟨rfl, pa⟩
          try replace sc := sc.up pa
          try replace ns := ns.up pa
          try replace hz2 := hz2.up pa
          try replace h4 := h4.up pa
          try replace z0 := z0.up pa
          try replace z1 := z1.up pa
          try replace z2 := z2.up pa
          try replace s4 := s4.up pa
          try replace hb := hb.up pa
          try replace hne := hne.up pa
          try replace R0 := R0.up pa
          try replace R := R.up pa
          try replace i := i.up pa
          try replace w' := w'.up pa
          try replace h' := h'.up pa
          try replace l := l.up pa
          try replace hi := hi.up pa
          try replace f := f.up pa
          try replace hl6 := hl6.up pa
          try replace hl0 := hl0.up pa
          try replace hf4 := hf4.up pa
          try replace R1 := R1.up pa
          try replace f1 := f1.up pa
          try replace w := w.up pa
          try replace h := h.up pa
          try replace l12 := l12.up pa
          try replace a0 := a0.up pa
          try replace R2 := R2.up pa
          try replace f2 := f2.up pa
          try replace Nat := Nat.up pa
          try replace a := a.up pa
          try replace n := n.up pa
          try replace rb := rb.up pa
          try replace z := z.up pa
          try replace hj := hj.up pa
          try replace c := c.up pa
          try replace c0 := c0.up pa
          try replace c1 := c1.up pa
          try replace R4 := R4.up pa
          try replace f4 := f4.up pa
          try replace hx := hx.up pa
          try replace hxs := hxs.up pa
          try replace t := t.up pa
          try replace hz := hz.up pa
          try replace hts := hts.up pa
          try replace f3 := f3.up pa
          try replace htl := htl.up pa
          try replace tne := tne.up pa
          try replace g2 := g2.up pa
          try replace R3 := R3.up pa
          try replace b := b.up pa
          try replace esg := esg.up pa
          try replace k := k.up pa
          try replace p5 := p5.up pa
          try replace gk := gk.up pa
          try replace s := s.up pa
          try replace hs := hs.up pa
          try replace hsm := hsm.up pa
          try replace b8 := b8.up pa
          try replace nl := nl.up pa
          try replace h1 := h1.up pa
          try replace h2 := h2.up pa
          try replace tk := tk.up pa
          try replace tll := tll.up pa
          try replace a1 := a1.up pa
          try replace jn := jn.up pa
          try replace dq := dq.up pa
          try replace ew := ew.up pa
          try replace g8 := g8.up pa
          try replace p9 := p9.up pa
          try replace p8 := p8.up pa
          try replace pz := pz.up pa
          try replace pb := pb.up pa
          try replace ne := ne.up pa
          try replace hng := hng.up pa
          try replace nn := nn.up pa
          try replace s0 := s0.up pa
          try replace hs0 := hs0.up pa
          try replace e1 := e1.up pa
          try replace e2 := e2.up pa
          try replace e3 := e3.up pa
          try replace e4 := e4.up pa
          try replace he := he.up pa
          try replace mn := mn.up pa
          try replace q4 := q4.up pa
          try replace hsl := hsl.up pa
          try replace sm := sm.up pa
          (try rw [hos_seq]); (try simp only [ho_ok, ho_ret, ho_bd, ho_bdI, ho_bdO, hos_nx, hos_rt, hos_bk, hos_ct, hos_onx, hos_ort, hos_exS, hos_exT, hos_exA, hos_exI, nxt_nx, nxt_rt, nxt_bk, nxt_ct, hos_asg, fin_nx, fin_rt, ho_body1, ho_body2, ho_body3, ho_body4, ho_meth, ho_bm, ho_prop, ho_if, hos_if, ho_and, ho_or, ho_andT, ho_orT, ho_ite, ho_chain, ret_d, ngW_b, blM_b, truM_b, getSl_0, getSl_s, lstM_d, tupM_d, add_ii, add_ss, sub_ii, mul_ii, fdiv_ii, mod_ii, pow_ii, lt_ii, le_ii, gt_ii, ge_ii, eq_ii, ne_ii, eq_ss, ne_ss, intM_i, lenM_t, ixM_t, seqV_s, seqV_t, partM_i, in_1, List.length_cons, List.length_nil, List.length_singleton, List.map_cons, List.map_nil, List.cons_append, List.nil_append, List.set_cons_zero, List.set_cons_succ, List.replicate_succ, List.replicate_zero, List.append_nil, Nat.reduceAdd, Nat.reduceSub, Nat.zero_add, Nat.sub_self, Nat.reduceEqDiff, Nat.reduceLeDiff, if_true, if_false, ite_true, ite_false, reduceIte, decide_true, decide_false, Bool.not_true, Bool.not_false, true_and, and_true])
          (try rw [hos_seq]); (try simp only [ho_ok, ho_ret, ho_bd, ho_bdI, ho_bdO, hos_nx, hos_rt, hos_bk, hos_ct, hos_onx, hos_ort, hos_exS, hos_exT, hos_exA, hos_exI, nxt_nx, nxt_rt, nxt_bk, nxt_ct, hos_asg, fin_nx, fin_rt, ho_body1, ho_body2, ho_body3, ho_body4, ho_meth, ho_bm, ho_prop, ho_if, hos_if, ho_and, ho_or, ho_andT, ho_orT, ho_ite, ho_chain, ret_d, ngW_b, blM_b, truM_b, getSl_0, getSl_s, lstM_d, tupM_d, add_ii, add_ss, sub_ii, mul_ii, fdiv_ii, mod_ii, pow_ii, lt_ii, le_ii, gt_ii, ge_ii, eq_ii, ne_ii, eq_ss, ne_ss, intM_i, lenM_t, ixM_t, seqV_s, seqV_t, partM_i, in_1, List.length_cons, List.length_nil, List.length_singleton, List.map_cons, List.map_nil, List.cons_append, List.nil_append, List.set_cons_zero, List.set_cons_succ, List.replicate_succ, List.replicate_zero, List.append_nil, Nat.reduceAdd, Nat.reduceSub, Nat.zero_add, Nat.sub_self, Nat.reduceEqDiff, Nat.reduceLeDiff, if_true, if_false, ite_true, ite_false, reduceIte, decide_true, decide_false, Bool.not_true, Bool.not_false, true_and, and_true])
          refine Ho.call (bath_ok R3) ?_
          rintro v Sb ⟨iw, w', h', lw, rfl, hiw, fw, hfw4, bw, Rb, fb⟩
          obtain ⟨w2, h2, rfl, rfl⟩ := fw.nat
          have lw12 := fw.l12
          have hlw := fw.natLen
          have lwp : 0 < lw.length := by
            have := fw.w1
            have := fw.h1
            rw [hlw]
            exact Nat.mul_pos (by omega) (by omega)
          (try rw [hos_seq]); (try simp only [ho_ok, ho_ret, ho_bd, ho_bdI, ho_bdO, hos_nx, hos_rt, hos_bk, hos_ct, hos_onx, hos_ort, hos_exS, hos_exT, hos_exA, hos_exI, nxt_nx, nxt_rt, nxt_bk, nxt_ct, hos_asg, fin_nx, fin_rt, ho_body1, ho_body2, ho_body3, ho_body4, ho_meth, ho_bm, ho_prop, ho_if, hos_if, ho_and, ho_or, ho_andT, ho_orT, ho_ite, ho_chain, ret_d, ngW_b, blM_b, truM_b, getSl_0, getSl_s, lstM_d, tupM_d, add_ii, add_ss, sub_ii, mul_ii, fdiv_ii, mod_ii, pow_ii, lt_ii, le_ii, gt_ii, ge_ii, eq_ii, ne_ii, eq_ss, ne_ss, intM_i, lenM_t, ixM_t, seqV_s, seqV_t, partM_i, in_1, List.length_cons, List.length_nil, List.length_singleton, List.map_cons, List.map_nil, List.cons_append, List.nil_append, List.set_cons_zero, List.set_cons_succ, List.replicate_succ, List.replicate_zero, List.append_nil, Nat.reduceAdd, Nat.reduceSub, Nat.zero_add, Nat.sub_self, Nat.reduceEqDiff, Nat.reduceLeDiff, if_true, if_false, ite_true, ite_false, reduceIte, decide_true, decide_false, Bool.not_true, Bool.not_false, true_and, and_true])
          (try rw [hos_seq]); (try simp only [ho_ok, ho_ret, ho_bd, ho_bdI, ho_bdO, hos_nx, hos_rt, hos_bk, hos_ct, hos_onx, hos_ort, hos_exS, hos_exT, hos_exA, hos_exI, nxt_nx, nxt_rt, nxt_bk, nxt_ct, hos_asg, fin_nx, fin_rt, ho_body1, ho_body2, ho_body3, ho_body4, ho_meth, ho_bm, ho_prop, ho_if, hos_if, ho_and, ho_or, ho_andT, ho_orT, ho_ite, ho_chain, ret_d, ngW_b, blM_b, truM_b, getSl_0, getSl_s, lstM_d, tupM_d, add_ii, add_ss, sub_ii, mul_ii, fdiv_ii, mod_ii, pow_ii, lt_ii, le_ii, gt_ii, ge_ii, eq_ii, ne_ii, eq_ss, ne_ss, intM_i, lenM_t, ixM_t, seqV_s, seqV_t, partM_i, in_1, List.length_cons, List.length_nil, List.length_singleton, List.map_cons, List.map_nil, List.cons_append, List.nil_append, List.set_cons_zero, List.set_cons_succ, List.replicate_succ, List.replicate_zero, List.append_nil, Nat.reduceAdd, Nat.reduceSub, Nat.zero_add, Nat.sub_self, Nat.reduceEqDiff, Nat.reduceLeDiff, if_true, if_false, ite_true, ite_false, reduceIte, decide_true, decide_false, Bool.not_true, Bool.not_false, true_and, and_true])
          refine Ho.call (taken_ok Rb (by decide) (by decide)) ?_
          rintro v Sc ⟨a2, rfl, a20, a21, Rc, fc, _⟩
          obtain ⟨a2, rfl⟩ : ∃ n : Nat, a2 = n := ⟨a2.toNat, by omega⟩
          have rb2 : -(2 ^ 62) ≤ (a2 : Int) ∧ (a2 : Int) < 2 ^ 62 := ⟨by omega, by omega⟩
          have bw := bw.fr Rb fc
          (try rw [hos_seq]); (try simp only [ho_ok, ho_ret, ho_bd, ho_bdI, ho_bdO, hos_nx, hos_rt, hos_bk, hos_ct, hos_onx, hos_ort, hos_exS, hos_exT, hos_exA, hos_exI, nxt_nx, nxt_rt, nxt_bk, nxt_ct, hos_asg, fin_nx, fin_rt, ho_body1, ho_body2, ho_body3, ho_body4, ho_meth, ho_bm, ho_prop, ho_if, hos_if, ho_and, ho_or, ho_andT, ho_orT, ho_ite, ho_chain, ret_d, ngW_b, blM_b, truM_b, getSl_0, getSl_s, lstM_d, tupM_d, add_ii, add_ss, sub_ii, mul_ii, fdiv_ii, mod_ii, pow_ii, lt_ii, le_ii, gt_ii, ge_ii, eq_ii, ne_ii, eq_ss, ne_ss, intM_i, lenM_t, ixM_t, seqV_s, seqV_t, partM_i, in_1, List.length_cons, List.length_nil, List.length_singleton, List.map_cons, List.map_nil, List.cons_append, List.nil_append, List.set_cons_zero, List.set_cons_succ, List.replicate_succ, List.replicate_zero, List.append_nil, Nat.reduceAdd, Nat.reduceSub, Nat.zero_add, Nat.sub_self, Nat.reduceEqDiff, Nat.reduceLeDiff, if_true, if_false, ite_true, ite_false, reduceIte, decide_true, decide_false, Bool.not_true, Bool.not_false, true_and, and_true, rng1_i, rb2])
          refine ho_lc (ws := (List.range (a2 : Int).toNat).map fun (n : Nat) => W.int n) (fun j acc S' => (∃ ds : List Deed, acc = ds.map deedW ∧ ds.length = j ∧ ∀ d ∈ ds, d.Ok w2 h2) ∧ Row S' r ∧ Fr r Sc S') ⟨⟨[], rfl, rfl, by simp⟩, Rc, Fr.refl⟩ (fun _ _ _ _ => rfl) (fun j u acc S' hw hp => ?_) fun acc S' hp => ?_
          · obtain ⟨⟨ds, rfl, hj, hd⟩, R2, f2⟩ := hp
            obtain ⟨hja, rfl⟩ := rng_at hw
            simp only [ho_ok, ho_ret, ho_bd, ho_bdI, ho_bdO, hos_nx, hos_rt, hos_bk, hos_ct, hos_onx, hos_ort, hos_exS, hos_exT, hos_exA, hos_exI, nxt_nx, nxt_rt, nxt_bk, nxt_ct, hos_seq, hos_asg, fin_nx, fin_rt, ho_body1, ho_body2, ho_body3, ho_body4, ho_meth, ho_bm, ho_prop, ho_if, hos_if, ho_and, ho_or, ho_andT, ho_orT, ho_ite, ho_chain, ret_d, ngW_b, blM_b, truM_b, getSl_0, getSl_s, lstM_d, tupM_d, add_ii, add_ss, sub_ii, mul_ii, fdiv_ii, mod_ii, pow_ii, lt_ii, le_ii, gt_ii, ge_ii, eq_ii, ne_ii, eq_ss, ne_ss, intM_i, lenM_t, ixM_t, seqV_s, seqV_t, partM_i, in_1, List.length_cons, List.length_nil, List.length_singleton, List.map_cons, List.map_nil, List.cons_append, List.nil_append, List.set_cons_zero, List.set_cons_succ, List.replicate_succ, List.replicate_zero, List.append_nil, Nat.reduceAdd, Nat.reduceSub, Nat.zero_add, Nat.sub_self, Nat.reduceEqDiff, Nat.reduceLeDiff, if_true, if_false, ite_true, ite_false, reduceIte, decide_true, decide_false, Bool.not_true, Bool.not_false, true_and, and_true, Tgt.g, wipeS]
            refine Ho.call (deed_ok R2 fw (bw.fr Rc f2)) ?_
            rintro v S3 ⟨d, rfl, ok, R3, f3⟩
            refine ⟨by simp; omega, ⟨ds ++ [d], by simp, by simp [hj], fun d' hd' => ?_⟩, R3, f2.trans f3⟩
            rcases List.mem_append.mp hd' with h | h
            · exact hd d' h
            · rw [List.mem_singleton.mp h]; exact ok
          · obtain ⟨⟨ds, rfl, hj, hd⟩, Rd, fd⟩ := hp
            have e : ((List.range (a2 : Int).toNat).map fun (n : Nat) => W.int n).length = a2 := by simp
            rw [e] at hj
            have hdl : ds.length ≤ 12 := by omega
            have bw := bw.fr Rc fd
            have q : S' <+: S' ++ [Ob.lst (ds.map deedW)] := pre1
            have tu := tupleM_r (S := S' ++ [Ob.lst (ds.map deedW)]) (seq_lst get_last)
            (try rw [hos_seq]); (try simp only [ho_ok, ho_ret, ho_bd, ho_bdI, ho_bdO, hos_nx, hos_rt, hos_bk, hos_ct, hos_onx, hos_ort, hos_exS, hos_exT, hos_exA, hos_exI, nxt_nx, nxt_rt, nxt_bk, nxt_ct, hos_asg, fin_nx, fin_rt, ho_body1, ho_body2, ho_body3, ho_body4, ho_meth, ho_bm, ho_prop, ho_if, hos_if, ho_and, ho_or, ho_andT, ho_orT, ho_ite, ho_chain, ret_d, ngW_b, blM_b, truM_b, getSl_0, getSl_s, lstM_d, tupM_d, add_ii, add_ss, sub_ii, mul_ii, fdiv_ii, mod_ii, pow_ii, lt_ii, le_ii, gt_ii, ge_ii, eq_ii, ne_ii, eq_ss, ne_ss, intM_i, lenM_t, ixM_t, seqV_s, seqV_t, partM_i, in_1, List.length_cons, List.length_nil, List.length_singleton, List.map_cons, List.map_nil, List.cons_append, List.nil_append, List.set_cons_zero, List.set_cons_succ, List.replicate_succ, List.replicate_zero, List.append_nil, Nat.reduceAdd, Nat.reduceSub, Nat.zero_add, Nat.sub_self, Nat.reduceEqDiff, Nat.reduceLeDiff, if_true, if_false, ite_true, ite_false, reduceIte, decide_true, decide_false, Bool.not_true, Bool.not_false, true_and, and_true, tu])
            generalize S' ++ [Ob.lst (ds.map deedW)] = Sd at q ⊢
            try replace sc := sc.up q
            try replace ns := ns.up q
            try replace hz2 := hz2.up q
            try replace h4 := h4.up q
            try replace z0 := z0.up q
            try replace z1 := z1.up q
            try replace z2 := z2.up q
            try replace s4 := s4.up q
            try replace hb := hb.up q
            try replace hne := hne.up q
            try replace R0 := R0.up q
            try replace R := R.up q
            try replace i := i.up q
            try replace l := l.up q
            try replace hi := hi.up q
            try replace f := f.up q
            try replace hl6 := hl6.up q
            try replace hl0 := hl0.up q
            try replace hf4 := hf4.up q
            try replace R1 := R1.up q
            try replace f1 := f1.up q
            try replace w := w.up q
            try replace h := h.up q
            try replace l12 := l12.up q
            try replace a0 := a0.up q
            try replace a := a.up q
            try replace rb := rb.up q
            try replace z := z.up q
            try replace c := c.up q
            try replace c0 := c0.up q
            try replace c1 := c1.up q
            try replace R4 := R4.up q
            try replace f4 := f4.up q
            try replace hx := hx.up q
            try replace hxs := hxs.up q
            try replace t := t.up q
            try replace hz := hz.up q
            try replace hts := hts.up q
            try replace htl := htl.up q
            try replace tne := tne.up q
            try replace g2 := g2.up q
            try replace b := b.up q
            try replace esg := esg.up q
            try replace k := k.up q
            try replace p5 := p5.up q
            try replace gk := gk.up q
            try replace s := s.up q
            try replace hs := hs.up q
            try replace hsm := hsm.up q
            try replace b8 := b8.up q
            try replace nl := nl.up q
            try replace h1 := h1.up q
            try replace tk := tk.up q
            try replace tll := tll.up q
            try replace a1 := a1.up q
            try replace jn := jn.up q
            try replace dq := dq.up q
            try replace ew := ew.up q
            try replace g8 := g8.up q
            try replace p9 := p9.up q
            try replace p8 := p8.up q
            try replace pz := pz.up q
            try replace pb := pb.up q
            try replace ne := ne.up q
            try replace hng := hng.up q
            try replace nn := nn.up q
            try replace s0 := s0.up q
            try replace hs0 := hs0.up q
            try replace e1 := e1.up q
            try replace e2 := e2.up q
            try replace e3 := e3.up q
            try replace e4 := e4.up q
            try replace he := he.up q
            try replace mn := mn.up q
            try replace q4 := q4.up q
            try replace hsl := hsl.up q
            try replace sm := sm.up q
            try replace pa := pa.up q
            try replace iw := iw.up q
            try replace w' := w'.up q
            try replace h' := h'.up q
            try replace lw := lw.up q
            try replace hiw := hiw.up q
            try replace fw := fw.up q
            try replace hfw4 := hfw4.up q
            try replace Rb := Rb.up q
            try replace fb := fb.up q
            try replace w2 := w2.up q
            try replace h2 := h2.up q
            try replace lw12 := lw12.up q
            try replace hlw := hlw.up q
            try replace lwp := lwp.up q
            try replace a20 := a20.up q
            try replace a21 := a21.up q
            try replace Rc := Rc.up q
            try replace fc := fc.up q
            try replace Nat := Nat.up q
            try replace a2 := a2.up q
            try replace n := n.up q
            try replace rb2 := rb2.up q
            try replace R2 := R2.up q
            try replace f2 := f2.up q
            try replace hja := hja.up q
            try replace d := d.up q
            try replace ok := ok.up q
            try replace R3 := R3.up q
            try replace f3 := f3.up q
            try replace ds := ds.up q
            try replace hj := hj.up q
            try replace hd := hd.up q
            try replace Rd := Rd.up q
            try replace fd := fd.up q
            try replace e := e.up q
            try replace hdl := hdl.up q
            try replace bw := bw.up q
            try replace tu := tu.up q
            (try rw [hos_seq]); (try simp only [ho_ok, ho_ret, ho_bd, ho_bdI, ho_bdO, hos_nx, hos_rt, hos_bk, hos_ct, hos_onx, hos_ort, hos_exS, hos_exT, hos_exA, hos_exI, nxt_nx, nxt_rt, nxt_bk, nxt_ct, hos_asg, fin_nx, fin_rt, ho_body1, ho_body2, ho_body3, ho_body4, ho_meth, ho_bm, ho_prop, ho_if, hos_if, ho_and, ho_or, ho_andT, ho_orT, ho_ite, ho_chain, ret_d, ngW_b, blM_b, truM_b, getSl_0, getSl_s, lstM_d, tupM_d, add_ii, add_ss, sub_ii, mul_ii, fdiv_ii, mod_ii, pow_ii, lt_ii, le_ii, gt_ii, ge_ii, eq_ii, ne_ii, eq_ss, ne_ss, intM_i, lenM_t, ixM_t, seqV_s, seqV_t, partM_i, in_1, List.length_cons, List.length_nil, List.length_singleton, List.map_cons, List.map_nil, List.cons_append, List.nil_append, List.set_cons_zero, List.set_cons_succ, List.replicate_succ, List.replicate_zero, List.append_nil, Nat.reduceAdd, Nat.reduceSub, Nat.zero_add, Nat.sub_self, Nat.reduceEqDiff, Nat.reduceLeDiff, if_true, if_false, ite_true, ite_false, reduceIte, decide_true, decide_false, Bool.not_true, Bool.not_false, true_and, and_true, len_ok fw bw])
            refine Ho.call (some_ok Rd lw.length lwp lw12) ?_
            rintro v Se ⟨cs, rfl, c0, c1, c2, c3, Re, fe⟩
            have bw := bw.fr Rd fe
            (try rw [hos_seq]); (try simp only [ho_ok, ho_ret, ho_bd, ho_bdI, ho_bdO, hos_nx, hos_rt, hos_bk, hos_ct, hos_onx, hos_ort, hos_exS, hos_exT, hos_exA, hos_exI, nxt_nx, nxt_rt, nxt_bk, nxt_ct, hos_asg, fin_nx, fin_rt, ho_body1, ho_body2, ho_body3, ho_body4, ho_meth, ho_bm, ho_prop, ho_if, hos_if, ho_and, ho_or, ho_andT, ho_orT, ho_ite, ho_chain, ret_d, ngW_b, blM_b, truM_b, getSl_0, getSl_s, lstM_d, tupM_d, add_ii, add_ss, sub_ii, mul_ii, fdiv_ii, mod_ii, pow_ii, lt_ii, le_ii, gt_ii, ge_ii, eq_ii, ne_ii, eq_ss, ne_ss, intM_i, lenM_t, ixM_t, seqV_s, seqV_t, partM_i, in_1, List.length_cons, List.length_nil, List.length_singleton, List.map_cons, List.map_nil, List.cons_append, List.nil_append, List.set_cons_zero, List.set_cons_succ, List.replicate_succ, List.replicate_zero, List.append_nil, Nat.reduceAdd, Nat.reduceSub, Nat.zero_add, Nat.sub_self, Nat.reduceEqDiff, Nat.reduceLeDiff, if_true, if_false, ite_true, ite_false, reduceIte, decide_true, decide_false, Bool.not_true, Bool.not_false, true_and, and_true])
            refine Ho.call (rows_ok fw bw hd hdl (seqV_t _)) ?_
            rintro v Sf ⟨jr, rs, rfl, pf, RR⟩
            try replace sc := sc.up pf
            try replace ns := ns.up pf
            try replace hz2 := hz2.up pf
            try replace h4 := h4.up pf
            try replace z0 := z0.up pf
            try replace z1 := z1.up pf
            try replace z2 := z2.up pf
            try replace s4 := s4.up pf
            try replace hb := hb.up pf
            try replace hne := hne.up pf
            try replace R0 := R0.up pf
            try replace R := R.up pf
            try replace i := i.up pf
            try replace l := l.up pf
            try replace hi := hi.up pf
            try replace f := f.up pf
            try replace hl6 := hl6.up pf
            try replace hl0 := hl0.up pf
            try replace hf4 := hf4.up pf
            try replace R1 := R1.up pf
            try replace f1 := f1.up pf
            try replace w := w.up pf
            try replace h := h.up pf
            try replace l12 := l12.up pf
            try replace a0 := a0.up pf
            try replace a := a.up pf
            try replace rb := rb.up pf
            try replace z := z.up pf
            try replace c := c.up pf
            try replace R4 := R4.up pf
            try replace f4 := f4.up pf
            try replace hx := hx.up pf
            try replace hxs := hxs.up pf
            try replace t := t.up pf
            try replace hz := hz.up pf
            try replace hts := hts.up pf
            try replace htl := htl.up pf
            try replace tne := tne.up pf
            try replace g2 := g2.up pf
            try replace b := b.up pf
            try replace esg := esg.up pf
            try replace k := k.up pf
            try replace p5 := p5.up pf
            try replace gk := gk.up pf
            try replace s := s.up pf
            try replace hs := hs.up pf
            try replace hsm := hsm.up pf
            try replace b8 := b8.up pf
            try replace nl := nl.up pf
            try replace h1 := h1.up pf
            try replace tk := tk.up pf
            try replace tll := tll.up pf
            try replace a1 := a1.up pf
            try replace jn := jn.up pf
            try replace dq := dq.up pf
            try replace ew := ew.up pf
            try replace g8 := g8.up pf
            try replace p9 := p9.up pf
            try replace p8 := p8.up pf
            try replace pz := pz.up pf
            try replace pb := pb.up pf
            try replace ne := ne.up pf
            try replace hng := hng.up pf
            try replace nn := nn.up pf
            try replace s0 := s0.up pf
            try replace hs0 := hs0.up pf
            try replace e1 := e1.up pf
            try replace e2 := e2.up pf
            try replace e3 := e3.up pf
            try replace e4 := e4.up pf
            try replace he := he.up pf
            try replace mn := mn.up pf
            try replace q4 := q4.up pf
            try replace hsl := hsl.up pf
            try replace sm := sm.up pf
            try replace pa := pa.up pf
            try replace iw := iw.up pf
            try replace w' := w'.up pf
            try replace h' := h'.up pf
            try replace lw := lw.up pf
            try replace hiw := hiw.up pf
            try replace fw := fw.up pf
            try replace hfw4 := hfw4.up pf
            try replace Rb := Rb.up pf
            try replace fb := fb.up pf
            try replace w2 := w2.up pf
            try replace h2 := h2.up pf
            try replace lw12 := lw12.up pf
            try replace hlw := hlw.up pf
            try replace lwp := lwp.up pf
            try replace a20 := a20.up pf
            try replace a21 := a21.up pf
            try replace Rc := Rc.up pf
            try replace fc := fc.up pf
            try replace Nat := Nat.up pf
            try replace a2 := a2.up pf
            try replace n := n.up pf
            try replace rb2 := rb2.up pf
            try replace R2 := R2.up pf
            try replace f2 := f2.up pf
            try replace hja := hja.up pf
            try replace d := d.up pf
            try replace ok := ok.up pf
            try replace R3 := R3.up pf
            try replace f3 := f3.up pf
            try replace ds := ds.up pf
            try replace hj := hj.up pf
            try replace hd := hd.up pf
            try replace Rd := Rd.up pf
            try replace fd := fd.up pf
            try replace e := e.up pf
            try replace hdl := hdl.up pf
            try replace q := q.up pf
            try replace tu := tu.up pf
            try replace cs := cs.up pf
            try replace c0 := c0.up pf
            try replace c1 := c1.up pf
            try replace c2 := c2.up pf
            try replace c3 := c3.up pf
            try replace Re := Re.up pf
            try replace fe := fe.up pf
            try replace bw := bw.up pf
            try replace jr := jr.up pf
            try replace rs := rs.up pf
            try replace RR := RR.up pf
            (try rw [hos_seq]); (try simp only [ho_ok, ho_ret, ho_bd, ho_bdI, ho_bdO, hos_nx, hos_rt, hos_bk, hos_ct, hos_onx, hos_ort, hos_exS, hos_exT, hos_exA, hos_exI, nxt_nx, nxt_rt, nxt_bk, nxt_ct, hos_asg, fin_nx, fin_rt, ho_body1, ho_body2, ho_body3, ho_body4, ho_meth, ho_bm, ho_prop, ho_if, hos_if, ho_and, ho_or, ho_andT, ho_orT, ho_ite, ho_chain, ret_d, ngW_b, blM_b, truM_b, getSl_0, getSl_s, lstM_d, tupM_d, add_ii, add_ss, sub_ii, mul_ii, fdiv_ii, mod_ii, pow_ii, lt_ii, le_ii, gt_ii, ge_ii, eq_ii, ne_ii, eq_ss, ne_ss, intM_i, lenM_t, ixM_t, seqV_s, seqV_t, partM_i, in_1, List.length_cons, List.length_nil, List.length_singleton, List.map_cons, List.map_nil, List.cons_append, List.nil_append, List.set_cons_zero, List.set_cons_succ, List.replicate_succ, List.replicate_zero, List.append_nil, Nat.reduceAdd, Nat.reduceSub, Nat.zero_add, Nat.sub_self, Nat.reduceEqDiff, Nat.reduceLeDiff, if_true, if_false, ite_true, ite_false, reduceIte, decide_true, decide_false, Bool.not_true, Bool.not_false, true_and, and_true, z2, unpM, thenG])
            (try rw [hos_seq]); (try simp only [ho_ok, ho_ret, ho_bd, ho_bdI, ho_bdO, hos_nx, hos_rt, hos_bk, hos_ct, hos_onx, hos_ort, hos_exS, hos_exT, hos_exA, hos_exI, nxt_nx, nxt_rt, nxt_bk, nxt_ct, hos_asg, fin_nx, fin_rt, ho_body1, ho_body2, ho_body3, ho_body4, ho_meth, ho_bm, ho_prop, ho_if, hos_if, ho_and, ho_or, ho_andT, ho_orT, ho_ite, ho_chain, ret_d, ngW_b, blM_b, truM_b, getSl_0, getSl_s, lstM_d, tupM_d, add_ii, add_ss, sub_ii, mul_ii, fdiv_ii, mod_ii, pow_ii, lt_ii, le_ii, gt_ii, ge_ii, eq_ii, ne_ii, eq_ss, ne_ss, intM_i, lenM_t, ixM_t, seqV_s, seqV_t, partM_i, in_1, List.length_cons, List.length_nil, List.length_singleton, List.map_cons, List.map_nil, List.cons_append, List.nil_append, List.set_cons_zero, List.set_cons_succ, List.replicate_succ, List.replicate_zero, List.append_nil, Nat.reduceAdd, Nat.reduceSub, Nat.zero_add, Nat.sub_self, Nat.reduceEqDiff, Nat.reduceLeDiff, if_true, if_false, ite_true, ite_false, reduceIte, decide_true, decide_false, Bool.not_true, Bool.not_false, true_and, and_true, seqV_r (seq_lst RR.at_)])
            have fr : ∀ k, Fits (w2 : Int) (h2 : Int) (runN w2 h2 lw (ds.take k)) := fun k => Fits.run (ds := ds.take k) fw fun d' h' => hd d' (List.mem_of_mem_take h')
            have frl : ∀ k, (runN w2 h2 lw (ds.take k)).length = lw.length := fun k => by rw [(fr k).natLen, hlw]
            refine ho_lc (ws := rs.map W.ref) (fun n acc S' => Sf <+: S' ∧ acc = strsW ((List.range n).map fun k => spell (runN w2 h2 lw (ds.take k)) cs)) ⟨List.prefix_refl _, rfl⟩ (fun _ _ _ hq => seq_lst (RR.at_.up hq.1)) (fun n u acc S' hw hp => ?_) fun acc S' hp => ?_
            · obtain ⟨pg, rfl⟩ := hp
              obtain ⟨x, hx, rfl⟩ := map_at hw
              have hn := (List.getElem?_eq_some_iff.mp hx).1
              rw [RR.len] at hn
              have gx := (RR.each n x hx).1.up pg
              simp only [ho_ok, ho_ret, ho_bd, ho_bdI, ho_bdO, hos_nx, hos_rt, hos_bk, hos_ct, hos_onx, hos_ort, hos_exS, hos_exT, hos_exA, hos_exI, nxt_nx, nxt_rt, nxt_bk, nxt_ct, hos_seq, hos_asg, fin_nx, fin_rt, ho_body1, ho_body2, ho_body3, ho_body4, ho_meth, ho_bm, ho_prop, ho_if, hos_if, ho_and, ho_or, ho_andT, ho_orT, ho_ite, ho_chain, ret_d, ngW_b, blM_b, truM_b, getSl_0, getSl_s, lstM_d, tupM_d, add_ii, add_ss, sub_ii, mul_ii, fdiv_ii, mod_ii, pow_ii, lt_ii, le_ii, gt_ii, ge_ii, eq_ii, ne_ii, eq_ss, ne_ss, intM_i, lenM_t, ixM_t, seqV_s, seqV_t, partM_i, in_1, List.length_cons, List.length_nil, List.length_singleton, List.map_cons, List.map_nil, List.cons_append, List.nil_append, List.set_cons_zero, List.set_cons_succ, List.replicate_succ, List.replicate_zero, List.append_nil, Nat.reduceAdd, Nat.reduceSub, Nat.zero_add, Nat.sub_self, Nat.reduceEqDiff, Nat.reduceLeDiff, if_true, if_false, ite_true, ite_false, reduceIte, decide_true, decide_false, Bool.not_true, Bool.not_false, true_and, and_true, Tgt.g, wipeS, tyN_str]
              rw [spell_lc (cs := cs) (l := runN w2 h2 lw (ds.take n)) (fun c hc => by rw [frl]; exact c2 c hc) (by omega) fun c hc => ⟨_, rfl, by
                have a1 := sgW_at (l := runN w2 h2 lw (ds.take n)) hc
                simp only [bd_d, getSl_s, getSl_0, List.set_cons_zero, List.set_cons_succ, ixM_r _ (seq_lst gx), a1]⟩]
              have jn := join_sg (S := S' ++ [Ob.lst (sgW (spell (runN w2 h2 lw (ds.take n)) cs))]) get_last (by rw [spell_len]; omega)
              simp only [ho_ok, ho_ret, ho_bd, ho_bdI, ho_bdO, hos_nx, hos_rt, hos_bk, hos_ct, hos_onx, hos_ort, hos_exS, hos_exT, hos_exA, hos_exI, nxt_nx, nxt_rt, nxt_bk, nxt_ct, hos_seq, hos_asg, fin_nx, fin_rt, ho_body1, ho_body2, ho_body3, ho_body4, ho_meth, ho_bm, ho_prop, ho_if, hos_if, ho_and, ho_or, ho_andT, ho_orT, ho_ite, ho_chain, ret_d, ngW_b, blM_b, truM_b, getSl_0, getSl_s, lstM_d, tupM_d, add_ii, add_ss, sub_ii, mul_ii, fdiv_ii, mod_ii, pow_ii, lt_ii, le_ii, gt_ii, ge_ii, eq_ii, ne_ii, eq_ss, ne_ss, intM_i, lenM_t, ixM_t, seqV_s, seqV_t, partM_i, in_1, List.length_cons, List.length_nil, List.length_singleton, List.map_cons, List.map_nil, List.cons_append, List.nil_append, List.set_cons_zero, List.set_cons_succ, List.replicate_succ, List.replicate_zero, List.append_nil, Nat.reduceAdd, Nat.reduceSub, Nat.zero_add, Nat.sub_self, Nat.reduceEqDiff, Nat.reduceLeDiff, if_true, if_false, ite_true, ite_false, reduceIte, decide_true, decide_false, Bool.not_true, Bool.not_false, true_and, and_true, jn]
              refine ⟨by simp [strsW]; omega, pg.trans pre1, ?_⟩
              rw [List.range_succ, List.map_append]
              unfold strsW
              rw [List.map_append]
              rfl
            · obtain ⟨pg, rfl⟩ := hp
              rw [List.length_map, RR.len]
              generalize hsp : (List.range (ds.length + 1)).map (fun k => spell (runN w2 h2 lw (ds.take k)) cs) = sp
              have spl : sp.length = ds.length + 1 := by rw [← hsp]; simp
              have spat : ∀ k, k < ds.length + 1 → sp[k]? = some (spell (runN w2 h2 lw (ds.take k)) cs) := fun k hk => by
                rw [← hsp, List.getElem?_map, List.getElem?_range hk]
                rfl
              have gs : (S' ++ [Ob.lst (strsW sp)])[S'.length]? = some (.lst (strsW sp)) := get_last
              have pg := pg.trans (pre1 (o := Ob.lst (strsW sp)))
              generalize S' ++ [Ob.lst (strsW sp)] = Sg at gs pg ⊢
              generalize S'.length = ks at gs ⊢
              try replace sc := sc.up pg
              try replace ns := ns.up pg
              try replace hz2 := hz2.up pg
              try replace h4 := h4.up pg
              try replace z0 := z0.up pg
              try replace z1 := z1.up pg
              try replace z2 := z2.up pg
              try replace s4 := s4.up pg
              try replace hb := hb.up pg
              try replace hne := hne.up pg
              try replace R0 := R0.up pg
              try replace R := R.up pg
              try replace i := i.up pg
              try replace l := l.up pg
              try replace hi := hi.up pg
              try replace f := f.up pg
              try replace hl6 := hl6.up pg
              try replace hl0 := hl0.up pg
              try replace hf4 := hf4.up pg
              try replace R1 := R1.up pg
              try replace f1 := f1.up pg
              try replace w := w.up pg
              try replace h := h.up pg
              try replace l12 := l12.up pg
              try replace a0 := a0.up pg
              try replace a := a.up pg
              try replace rb := rb.up pg
              try replace z := z.up pg
              try replace c := c.up pg
              try replace R4 := R4.up pg
              try replace f4 := f4.up pg
              try replace hxs := hxs.up pg
              try replace t := t.up pg
              try replace hz := hz.up pg
              try replace hts := hts.up pg
              try replace htl := htl.up pg
              try replace tne := tne.up pg
              try replace g2 := g2.up pg
              try replace b := b.up pg
              try replace esg := esg.up pg
              try replace k := k.up pg
              try replace p5 := p5.up pg
              try replace gk := gk.up pg
              try replace s := s.up pg
              try replace hs := hs.up pg
              try replace hsm := hsm.up pg
              try replace b8 := b8.up pg
              try replace nl := nl.up pg
              try replace h1 := h1.up pg
              try replace tk := tk.up pg
              try replace tll := tll.up pg
              try replace dq := dq.up pg
              try replace ew := ew.up pg
              try replace g8 := g8.up pg
              try replace p9 := p9.up pg
              try replace p8 := p8.up pg
              try replace pz := pz.up pg
              try replace pb := pb.up pg
              try replace ne := ne.up pg
              try replace hng := hng.up pg
              try replace nn := nn.up pg
              try replace s0 := s0.up pg
              try replace hs0 := hs0.up pg
              try replace e1 := e1.up pg
              try replace e2 := e2.up pg
              try replace e3 := e3.up pg
              try replace e4 := e4.up pg
              try replace he := he.up pg
              try replace mn := mn.up pg
              try replace q4 := q4.up pg
              try replace hsl := hsl.up pg
              try replace sm := sm.up pg
              try replace pa := pa.up pg
              try replace iw := iw.up pg
              try replace w' := w'.up pg
              try replace h' := h'.up pg
              try replace lw := lw.up pg
              try replace hiw := hiw.up pg
              try replace fw := fw.up pg
              try replace hfw4 := hfw4.up pg
              try replace Rb := Rb.up pg
              try replace fb := fb.up pg
              try replace w2 := w2.up pg
              try replace h2 := h2.up pg
              try replace lw12 := lw12.up pg
              try replace hlw := hlw.up pg
              try replace lwp := lwp.up pg
              try replace a20 := a20.up pg
              try replace a21 := a21.up pg
              try replace Rc := Rc.up pg
              try replace fc := fc.up pg
              try replace Nat := Nat.up pg
              try replace a2 := a2.up pg
              try replace n := n.up pg
              try replace rb2 := rb2.up pg
              try replace R2 := R2.up pg
              try replace f2 := f2.up pg
              try replace hja := hja.up pg
              try replace d := d.up pg
              try replace ok := ok.up pg
              try replace R3 := R3.up pg
              try replace f3 := f3.up pg
              try replace ds := ds.up pg
              try replace hj := hj.up pg
              try replace hd := hd.up pg
              try replace Rd := Rd.up pg
              try replace fd := fd.up pg
              try replace e := e.up pg
              try replace hdl := hdl.up pg
              try replace q := q.up pg
              try replace tu := tu.up pg
              try replace cs := cs.up pg
              try replace c0 := c0.up pg
              try replace c1 := c1.up pg
              try replace c2 := c2.up pg
              try replace c3 := c3.up pg
              try replace Re := Re.up pg
              try replace fe := fe.up pg
              try replace bw := bw.up pg
              try replace jr := jr.up pg
              try replace rs := rs.up pg
              try replace pf := pf.up pg
              try replace RR := RR.up pg
              try replace fr := fr.up pg
              try replace frl := frl.up pg
              try replace hx := hx.up pg
              try replace hn := hn.up pg
              try replace gx := gx.up pg
              try replace a1 := a1.up pg
              try replace jn := jn.up pg
              try replace spl := spl.up pg
              try replace spat := spat.up pg
              try replace gs := gs.up pg
              have nks : ks ≠ r := fun e => by
                subst e
                obtain ⟨sc, ns, i', a', b', q, _⟩ := Re
                rw [gs] at q
                have := congrArg (fun o => match o with | Ob.lst (x :: _) => x | _ => .non) (Option.some.inj q)
                cases hsq : sp with
                | nil => rw [hsq] at spl; simp at spl
                | cons a s =>
                  rw [hsq] at this
                  cases this
              try simp only [ho_ok, ho_ret, ho_bd, ho_bdI, ho_bdO, hos_nx, hos_rt, hos_bk, hos_ct, hos_onx, hos_ort, hos_exS, hos_exT, hos_exA, hos_exI, nxt_nx, nxt_rt, nxt_bk, nxt_ct, hos_asg, fin_nx, fin_rt, ho_body1, ho_body2, ho_body3, ho_body4, ho_meth, ho_bm, ho_prop, ho_if, hos_if, ho_and, ho_or, ho_andT, ho_orT, ho_ite, ho_chain, ret_d, ngW_b, blM_b, truM_b, getSl_0, getSl_s, lstM_d, tupM_d, add_ii, add_ss, sub_ii, mul_ii, fdiv_ii, mod_ii, pow_ii, lt_ii, le_ii, gt_ii, ge_ii, eq_ii, ne_ii, eq_ss, ne_ss, intM_i, lenM_t, ixM_t, seqV_s, seqV_t, partM_i, in_1, List.length_cons, List.length_nil, List.length_singleton, List.map_cons, List.map_nil, List.cons_append, List.nil_append, List.set_cons_zero, List.set_cons_succ, List.replicate_succ, List.replicate_zero, List.append_nil, Nat.reduceAdd, Nat.reduceSub, Nat.zero_add, Nat.sub_self, Nat.reduceEqDiff, Nat.reduceLeDiff, if_true, if_false, ite_true, ite_false, reduceIte, decide_true, decide_false, Bool.not_true, Bool.not_false, true_and, and_true]
              rw [hos_seq, hos_exS]
              refine Ho.call (Q := fun v S' => ∃ tt, v = .str (txt tt) ∧ (∀ c ∈ tt, c ∈ sgs) ∧ tt.length = cs.length ∧ Row S' r ∧ Fr r Sg S') ?_ ?_
              · simp only [ho_ok, ho_ret, ho_bd, ho_bdI, ho_bdO, hos_nx, hos_rt, hos_bk, hos_ct, hos_onx, hos_ort, hos_exS, hos_exT, hos_exA, hos_exI, nxt_nx, nxt_rt, nxt_bk, nxt_ct, hos_seq, hos_asg, fin_nx, fin_rt, ho_body1, ho_body2, ho_body3, ho_body4, ho_meth, ho_bm, ho_prop, ho_if, hos_if, ho_and, ho_or, ho_andT, ho_orT, ho_ite, ho_chain, ret_d, ngW_b, blM_b, truM_b, getSl_0, getSl_s, lstM_d, tupM_d, add_ii, add_ss, sub_ii, mul_ii, fdiv_ii, mod_ii, pow_ii, lt_ii, le_ii, gt_ii, ge_ii, eq_ii, ne_ii, eq_ss, ne_ss, intM_i, lenM_t, ixM_t, seqV_s, seqV_t, partM_i, in_1, List.length_cons, List.length_nil, List.length_singleton, List.map_cons, List.map_nil, List.cons_append, List.nil_append, List.set_cons_zero, List.set_cons_succ, List.replicate_succ, List.replicate_zero, List.append_nil, Nat.reduceAdd, Nat.reduceSub, Nat.zero_add, Nat.sub_self, Nat.reduceEqDiff, Nat.reduceLeDiff, if_true, if_false, ite_true, ite_false, reduceIte, decide_true, decide_false, Bool.not_true, Bool.not_false, true_and, and_true]
                refine Ho.call (taken_ok Re (by decide) (by decide)) ?_
                rintro v Sh ⟨a3, rfl, a30, a31, Rh, fh, _⟩
                have gs := fh.get _ _ nks gs
                have sl2 : (strsW sp).length = ds.length + 1 := by simp [strsW, spl]
                by_cases h3 : (0 : Int) < a3
                · simp only [ho_ok, ho_ret, ho_bd, ho_bdI, ho_bdO, hos_nx, hos_rt, hos_bk, hos_ct, hos_onx, hos_ort, hos_exS, hos_exT, hos_exA, hos_exI, nxt_nx, nxt_rt, nxt_bk, nxt_ct, hos_seq, hos_asg, fin_nx, fin_rt, ho_body1, ho_body2, ho_body3, ho_body4, ho_meth, ho_bm, ho_prop, ho_if, hos_if, ho_and, ho_or, ho_andT, ho_orT, ho_ite, ho_chain, ret_d, ngW_b, blM_b, truM_b, getSl_0, getSl_s, lstM_d, tupM_d, add_ii, add_ss, sub_ii, mul_ii, fdiv_ii, mod_ii, pow_ii, lt_ii, le_ii, gt_ii, ge_ii, eq_ii, ne_ii, eq_ss, ne_ss, intM_i, lenM_t, ixM_t, seqV_s, seqV_t, partM_i, in_1, List.length_cons, List.length_nil, List.length_singleton, List.map_cons, List.map_nil, List.cons_append, List.nil_append, List.set_cons_zero, List.set_cons_succ, List.replicate_succ, List.replicate_zero, List.append_nil, Nat.reduceAdd, Nat.reduceSub, Nat.zero_add, Nat.sub_self, Nat.reduceEqDiff, Nat.reduceLeDiff, if_true, if_false, ite_true, ite_false, reduceIte, decide_true, decide_false, Bool.not_true, Bool.not_false, true_and, and_true, h3, lenM_r (seq_lst gs), sl2]
                  refine Ho.call (taken_ok (m := ((ds.length + 1 : Nat) : Int)) Rh (by omega) (by omega)) ?_
                  rintro v Si ⟨a4, rfl, a40, a41, Ri, fi, _⟩
                  obtain ⟨a4, rfl⟩ : ∃ n : Nat, a4 = n := ⟨a4.toNat, by omega⟩
                  have gs := fi.get _ _ nks gs
                  have at4 : atI (strsW sp) (a4 : Int) = some (.str (txt (spell (runN w2 h2 lw (ds.take a4)) cs))) := atI_n (by
                    unfold strsW
                    rw [List.getElem?_map, spat a4 (by omega)]
                    rfl)
                  simp only [ho_ok, ho_ret, ho_bd, ho_bdI, ho_bdO, hos_nx, hos_rt, hos_bk, hos_ct, hos_onx, hos_ort, hos_exS, hos_exT, hos_exA, hos_exI, nxt_nx, nxt_rt, nxt_bk, nxt_ct, hos_seq, hos_asg, fin_nx, fin_rt, ho_body1, ho_body2, ho_body3, ho_body4, ho_meth, ho_bm, ho_prop, ho_if, hos_if, ho_and, ho_or, ho_andT, ho_orT, ho_ite, ho_chain, ret_d, ngW_b, blM_b, truM_b, getSl_0, getSl_s, lstM_d, tupM_d, add_ii, add_ss, sub_ii, mul_ii, fdiv_ii, mod_ii, pow_ii, lt_ii, le_ii, gt_ii, ge_ii, eq_ii, ne_ii, eq_ss, ne_ss, intM_i, lenM_t, ixM_t, seqV_s, seqV_t, partM_i, in_1, List.length_cons, List.length_nil, List.length_singleton, List.map_cons, List.map_nil, List.cons_append, List.nil_append, List.set_cons_zero, List.set_cons_succ, List.replicate_succ, List.replicate_zero, List.append_nil, Nat.reduceAdd, Nat.reduceSub, Nat.zero_add, Nat.sub_self, Nat.reduceEqDiff, Nat.reduceLeDiff, if_true, if_false, ite_true, ite_false, reduceIte, decide_true, decide_false, Bool.not_true, Bool.not_false, true_and, and_true, ixM_r _ (seq_lst gs), at4]
                  refine ⟨_, rfl, fun c hc => ?_, spell_len _ _, Ri, fh.trans fi⟩
                  unfold spell at hc
                  obtain ⟨x, hx, rfl⟩ := List.mem_map.mp hc
                  exact (fr a4).getD (by rw [frl]; exact c2 x hx)
                · have ez : Str.ofString "z" = one 122 := by decide +kernel
                  have mz := mulS_ok (S := Sh) 122 cs.length (by omega)
                  simp only [ho_ok, ho_ret, ho_bd, ho_bdI, ho_bdO, hos_nx, hos_rt, hos_bk, hos_ct, hos_onx, hos_ort, hos_exS, hos_exT, hos_exA, hos_exI, nxt_nx, nxt_rt, nxt_bk, nxt_ct, hos_seq, hos_asg, fin_nx, fin_rt, ho_body1, ho_body2, ho_body3, ho_body4, ho_meth, ho_bm, ho_prop, ho_if, hos_if, ho_and, ho_or, ho_andT, ho_orT, ho_ite, ho_chain, ret_d, ngW_b, blM_b, truM_b, getSl_0, getSl_s, lstM_d, tupM_d, add_ii, add_ss, sub_ii, mul_ii, fdiv_ii, mod_ii, pow_ii, lt_ii, le_ii, gt_ii, ge_ii, eq_ii, ne_ii, eq_ss, ne_ss, intM_i, lenM_t, ixM_t, seqV_s, seqV_t, partM_i, in_1, List.length_cons, List.length_nil, List.length_singleton, List.map_cons, List.map_nil, List.cons_append, List.nil_append, List.set_cons_zero, List.set_cons_succ, List.replicate_succ, List.replicate_zero, List.append_nil, Nat.reduceAdd, Nat.reduceSub, Nat.zero_add, Nat.sub_self, Nat.reduceEqDiff, Nat.reduceLeDiff, if_true, if_false, ite_true, ite_false, reduceIte, decide_true, decide_false, Bool.not_true, Bool.not_false, true_and, and_true, h3, lenM_t, nums_len, ez, mz]
                  exact ⟨_, rfl, fun c hc => by rw [List.eq_of_mem_replicate hc]; decide, by simp, Rh, fh⟩
              · rintro v Sh ⟨tt, rfl, hts2, htl2, Rh, fh⟩
                have bw := bw.fr Re fh
                have gs := fh.get _ _ nks gs
                (try rw [hos_seq]); (try simp only [ho_ok, ho_ret, ho_bd, ho_bdI, ho_bdO, hos_nx, hos_rt, hos_bk, hos_ct, hos_onx, hos_ort, hos_exS, hos_exT, hos_exA, hos_exI, nxt_nx, nxt_rt, nxt_bk, nxt_ct, hos_asg, fin_nx, fin_rt, ho_body1, ho_body2, ho_body3, ho_body4, ho_meth, ho_bm, ho_prop, ho_if, hos_if, ho_and, ho_or, ho_andT, ho_orT, ho_ite, ho_chain, ret_d, ngW_b, blM_b, truM_b, getSl_0, getSl_s, lstM_d, tupM_d, add_ii, add_ss, sub_ii, mul_ii, fdiv_ii, mod_ii, pow_ii, lt_ii, le_ii, gt_ii, ge_ii, eq_ii, ne_ii, eq_ss, ne_ss, intM_i, lenM_t, ixM_t, seqV_s, seqV_t, partM_i, in_1, List.length_cons, List.length_nil, List.length_singleton, List.map_cons, List.map_nil, List.cons_append, List.nil_append, List.set_cons_zero, List.set_cons_succ, List.replicate_succ, List.replicate_zero, List.append_nil, Nat.reduceAdd, Nat.reduceSub, Nat.zero_add, Nat.sub_self, Nat.reduceEqDiff, Nat.reduceLeDiff, if_true, if_false, ite_true, ite_false, reduceIte, decide_true, decide_false, Bool.not_true, Bool.not_false, true_and, and_true])
                (try rw [hos_seq]); (try simp only [ho_ok, ho_ret, ho_bd, ho_bdI, ho_bdO, hos_nx, hos_rt, hos_bk, hos_ct, hos_onx, hos_ort, hos_exS, hos_exT, hos_exA, hos_exI, nxt_nx, nxt_rt, nxt_bk, nxt_ct, hos_asg, fin_nx, fin_rt, ho_body1, ho_body2, ho_body3, ho_body4, ho_meth, ho_bm, ho_prop, ho_if, hos_if, ho_and, ho_or, ho_andT, ho_orT, ho_ite, ho_chain, ret_d, ngW_b, blM_b, truM_b, getSl_0, getSl_s, lstM_d, tupM_d, add_ii, add_ss, sub_ii, mul_ii, fdiv_ii, mod_ii, pow_ii, lt_ii, le_ii, gt_ii, ge_ii, eq_ii, ne_ii, eq_ss, ne_ss, intM_i, lenM_t, ixM_t, seqV_s, seqV_t, partM_i, in_1, List.length_cons, List.length_nil, List.length_singleton, List.map_cons, List.map_nil, List.cons_append, List.nil_append, List.set_cons_zero, List.set_cons_succ, List.replicate_succ, List.replicate_zero, List.append_nil, Nat.reduceAdd, Nat.reduceSub, Nat.zero_add, Nat.sub_self, Nat.reduceEqDiff, Nat.reduceLeDiff, if_true, if_false, ite_true, ite_false, reduceIte, decide_true, decide_false, Bool.not_true, Bool.not_false, true_and, and_true])
                refine Ho.call (moments_ok fw bw hd hdl c0 c1 c2 hts2 htl2) ?_
                rintro v Si ⟨jm, rfl, pi, gm⟩
                have gs := gs.up pi
                have Ri := Rh.up pi
                have sl2 : (strsW sp).length = ds.length + 1 := by simp [strsW, spl]
                have rb3 : -(2 ^ 62) ≤ ((ds.length + 1 : Nat) : Int) ∧ ((ds.length + 1 : Nat) : Int) < 2 ^ 62 := ⟨by omega, by omega⟩
                (try rw [hos_seq]); (try simp only [ho_ok, ho_ret, ho_bd, ho_bdI, ho_bdO, hos_nx, hos_rt, hos_bk, hos_ct, hos_onx, hos_ort, hos_exS, hos_exT, hos_exA, hos_exI, nxt_nx, nxt_rt, nxt_bk, nxt_ct, hos_asg, fin_nx, fin_rt, ho_body1, ho_body2, ho_body3, ho_body4, ho_meth, ho_bm, ho_prop, ho_if, hos_if, ho_and, ho_or, ho_andT, ho_orT, ho_ite, ho_chain, ret_d, ngW_b, blM_b, truM_b, getSl_0, getSl_s, lstM_d, tupM_d, add_ii, add_ss, sub_ii, mul_ii, fdiv_ii, mod_ii, pow_ii, lt_ii, le_ii, gt_ii, ge_ii, eq_ii, ne_ii, eq_ss, ne_ss, intM_i, lenM_t, ixM_t, seqV_s, seqV_t, partM_i, in_1, List.length_cons, List.length_nil, List.length_singleton, List.map_cons, List.map_nil, List.cons_append, List.nil_append, List.set_cons_zero, List.set_cons_succ, List.replicate_succ, List.replicate_zero, List.append_nil, Nat.reduceAdd, Nat.reduceSub, Nat.zero_add, Nat.sub_self, Nat.reduceEqDiff, Nat.reduceLeDiff, if_true, if_false, ite_true, ite_false, reduceIte, decide_true, decide_false, Bool.not_true, Bool.not_false, true_and, and_true, lenM_r (seq_lst gs), sl2, rng1_i, rb3])
                refine ho_lc (ws := (List.range ((ds.length + 1 : Nat) : Int).toNat).map fun (n : Nat) => W.int n) (fun n acc S' => S' = Si ∧ acc = nums ((List.range n).filter fun k => decide (spell (runN w2 h2 lw (ds.take k)) cs = tt))) ⟨rfl, rfl⟩ (fun _ _ _ _ => rfl) (fun n u acc S' hw hp => ?_) fun acc S' hp => ?_
                · obtain ⟨rfl, rfl⟩ := hp
                  obtain ⟨hn, rfl⟩ := rng_at hw
                  have at4 : atI (strsW sp) (n : Int) = some (.str (txt (spell (runN w2 h2 lw (ds.take n)) cs))) := atI_n (by
                    unfold strsW
                    rw [List.getElem?_map, spat n (by omega)]
                    rfl)
                  have fle := List.length_filter_le (fun k => decide (spell (runN w2 h2 lw (ds.take k)) cs = tt)) (List.range n)
                  rw [List.length_range] at fle
                  by_cases hq : spell (runN w2 h2 lw (ds.take n)) cs = tt
                  · have dq : decide (txt (spell (runN w2 h2 lw (ds.take n)) cs) = txt tt) = true := by rw [txt_dec]; exact decide_eq_true hq
                    simp only [ho_ok, ho_ret, ho_bd, ho_bdI, ho_bdO, hos_nx, hos_rt, hos_bk, hos_ct, hos_onx, hos_ort, hos_exS, hos_exT, hos_exA, hos_exI, nxt_nx, nxt_rt, nxt_bk, nxt_ct, hos_seq, hos_asg, fin_nx, fin_rt, ho_body1, ho_body2, ho_body3, ho_body4, ho_meth, ho_bm, ho_prop, ho_if, hos_if, ho_and, ho_or, ho_andT, ho_orT, ho_ite, ho_chain, ret_d, ngW_b, blM_b, truM_b, getSl_0, getSl_s, lstM_d, tupM_d, add_ii, add_ss, sub_ii, mul_ii, fdiv_ii, mod_ii, pow_ii, lt_ii, le_ii, gt_ii, ge_ii, eq_ii, ne_ii, eq_ss, ne_ss, intM_i, lenM_t, ixM_t, seqV_s, seqV_t, partM_i, in_1, List.length_cons, List.length_nil, List.length_singleton, List.map_cons, List.map_nil, List.cons_append, List.nil_append, List.set_cons_zero, List.set_cons_succ, List.replicate_succ, List.replicate_zero, List.append_nil, Nat.reduceAdd, Nat.reduceSub, Nat.zero_add, Nat.sub_self, Nat.reduceEqDiff, Nat.reduceLeDiff, if_true, if_false, ite_true, ite_false, reduceIte, decide_true, decide_false, Bool.not_true, Bool.not_false, true_and, and_true, Tgt.g, wipeS, ixM_r _ (seq_lst gs), at4, dq]
                    refine ⟨by rw [nums_len]; omega, ?_⟩
                    rw [List.range_succ, List.filter_append, filt_t (p := fun k => decide (spell (runN w2 h2 lw (ds.take k)) cs = tt)) (decide_eq_true hq), nums_app]
                    rfl
                  · have dq : decide (txt (spell (runN w2 h2 lw (ds.take n)) cs) = txt tt) = false := by rw [txt_dec]; exact decide_eq_false hq
                    simp only [ho_ok, ho_ret, ho_bd, ho_bdI, ho_bdO, hos_nx, hos_rt, hos_bk, hos_ct, hos_onx, hos_ort, hos_exS, hos_exT, hos_exA, hos_exI, nxt_nx, nxt_rt, nxt_bk, nxt_ct, hos_seq, hos_asg, fin_nx, fin_rt, ho_body1, ho_body2, ho_body3, ho_body4, ho_meth, ho_bm, ho_prop, ho_if, hos_if, ho_and, ho_or, ho_andT, ho_orT, ho_ite, ho_chain, ret_d, ngW_b, blM_b, truM_b, getSl_0, getSl_s, lstM_d, tupM_d, add_ii, add_ss, sub_ii, mul_ii, fdiv_ii, mod_ii, pow_ii, lt_ii, le_ii, gt_ii, ge_ii, eq_ii, ne_ii, eq_ss, ne_ss, intM_i, lenM_t, ixM_t, seqV_s, seqV_t, partM_i, in_1, List.length_cons, List.length_nil, List.length_singleton, List.map_cons, List.map_nil, List.cons_append, List.nil_append, List.set_cons_zero, List.set_cons_succ, List.replicate_succ, List.replicate_zero, List.append_nil, Nat.reduceAdd, Nat.reduceSub, Nat.zero_add, Nat.sub_self, Nat.reduceEqDiff, Nat.reduceLeDiff, if_true, if_false, ite_true, ite_false, reduceIte, decide_true, decide_false, Bool.not_true, Bool.not_false, true_and, and_true, Tgt.g, wipeS, ixM_r _ (seq_lst gs), at4, dq]
                    rw [List.range_succ, List.filter_append, filt_f (p := fun k => decide (spell (runN w2 h2 lw (ds.take k)) cs = tt)) (decide_eq_false hq), List.append_nil]
                · obtain ⟨rfl, rfl⟩ := hp
                  have e5 : ((List.range ((ds.length + 1 : Nat) : Int).toNat).map fun (n : Nat) => W.int n).length = ds.length + 1 := by rw [List.length_map, List.length_range, Int.toNat_natCast]
                  rw [e5]
                  generalize (List.range (ds.length + 1)).filter (fun k => decide (spell (runN w2 h2 lw (ds.take k)) cs = tt)) = F at gm ⊢
                  have nn : pyNe (.ref jm) (.ref S'.length) (S' ++ [Ob.lst (nums F)]) = .ok (.bl false) (S' ++ [Ob.lst (nums F)]) := Dm.sameN ((Dm.lst (n := 0) (f := fun (c : Nat) => W.int c) (g := fun (c : Nat) => PyData.int c) (l := F) (get_app gm) fun a _ => Dm.int a).at9 (by omega)) ((Dm.lst (n := 0) (f := fun (c : Nat) => W.int c) (g := fun (c : Nat) => PyData.int c) (l := F) get_last fun a _ => Dm.int a).at9 (by omega))
                  simp only [ho_ok, ho_ret, ho_bd, ho_bdI, ho_bdO, hos_nx, hos_rt, hos_bk, hos_ct, hos_onx, hos_ort, hos_exS, hos_exT, hos_exA, hos_exI, nxt_nx, nxt_rt, nxt_bk, nxt_ct, hos_seq, hos_asg, fin_nx, fin_rt, ho_body1, ho_body2, ho_body3, ho_body4, ho_meth, ho_bm, ho_prop, ho_if, hos_if, ho_and, ho_or, ho_andT, ho_orT, ho_ite, ho_chain, ret_d, ngW_b, blM_b, truM_b, getSl_0, getSl_s, lstM_d, tupM_d, add_ii, add_ss, sub_ii, mul_ii, fdiv_ii, mod_ii, pow_ii, lt_ii, le_ii, gt_ii, ge_ii, eq_ii, ne_ii, eq_ss, ne_ss, intM_i, lenM_t, ixM_t, seqV_s, seqV_t, partM_i, in_1, List.length_cons, List.length_nil, List.length_singleton, List.map_cons, List.map_nil, List.cons_append, List.nil_append, List.set_cons_zero, List.set_cons_succ, List.replicate_succ, List.replicate_zero, List.append_nil, Nat.reduceAdd, Nat.reduceSub, Nat.zero_add, Nat.sub_self, Nat.reduceEqDiff, Nat.reduceLeDiff, if_true, if_false, ite_true, ite_false, reduceIte, decide_true, decide_false, Bool.not_true, Bool.not_false, true_and, and_true, nn]
                  exact ⟨⟨_, _, _, _, _, _, _, _, _, _, _, _, _, rfl⟩, Ri.up pre1⟩
  · obtain ⟨⟨x2, x3, x4, x5, x6, x7, x8, x9, x10, x11, x12, x13, x14, rfl⟩, R⟩ := hp
    have ea : Str.ofString "a" = one 97 := by decide +kernel
    have m12 := mulS_ok (S := S') 97 12 (by omega)
    have m12 : pyMulS (.str (one 97)) (.int 12) S' = _ := m12
    have f12 : Fits ((4 : Nat) : Int) ((3 : Nat) : Int) (List.replicate 12 97) := ⟨by decide, by decide, by decide, by decide, by decide, by decide, fun c hc => by rw [List.eq_of_mem_replicate hc]; decide⟩
    (try rw [hos_seq]); (try simp only [ho_ok, ho_ret, ho_bd, ho_bdI, ho_bdO, hos_nx, hos_rt, hos_bk, hos_ct, hos_onx, hos_ort, hos_exS, hos_exT, hos_exA, hos_exI, nxt_nx, nxt_rt, nxt_bk, nxt_ct, hos_asg, fin_nx, fin_rt, ho_body1, ho_body2, ho_body3, ho_body4, ho_meth, ho_bm, ho_prop, ho_if, hos_if, ho_and, ho_or, ho_andT, ho_orT, ho_ite, ho_chain, ret_d, ngW_b, blM_b, truM_b, getSl_0, getSl_s, lstM_d, tupM_d, add_ii, add_ss, sub_ii, mul_ii, fdiv_ii, mod_ii, pow_ii, lt_ii, le_ii, gt_ii, ge_ii, eq_ii, ne_ii, eq_ss, ne_ss, intM_i, lenM_t, ixM_t, seqV_s, seqV_t, partM_i, in_1, List.length_cons, List.length_nil, List.length_singleton, List.map_cons, List.map_nil, List.cons_append, List.nil_append, List.set_cons_zero, List.set_cons_succ, List.replicate_succ, List.replicate_zero, List.append_nil, Nat.reduceAdd, Nat.reduceSub, Nat.zero_add, Nat.sub_self, Nat.reduceEqDiff, Nat.reduceLeDiff, if_true, if_false, ite_true, ite_false, reduceIte, decide_true, decide_false, Bool.not_true, Bool.not_false, true_and, and_true])
    simp only [ho_ok, ho_ret, ho_bd, ho_bdI, ho_bdO, hos_nx, hos_rt, hos_bk, hos_ct, hos_onx, hos_ort, hos_exS, hos_exT, hos_exA, hos_exI, nxt_nx, nxt_rt, nxt_bk, nxt_ct, hos_seq, hos_asg, fin_nx, fin_rt, ho_body1, ho_body2, ho_body3, ho_body4, ho_meth, ho_bm, ho_prop, ho_if, hos_if, ho_and, ho_or, ho_andT, ho_orT, ho_ite, ho_chain, ret_d, ngW_b, blM_b, truM_b, getSl_0, getSl_s, lstM_d, tupM_d, add_ii, add_ss, sub_ii, mul_ii, fdiv_ii, mod_ii, pow_ii, lt_ii, le_ii, gt_ii, ge_ii, eq_ii, ne_ii, eq_ss, ne_ss, intM_i, lenM_t, ixM_t, seqV_s, seqV_t, partM_i, in_1, List.length_cons, List.length_nil, List.length_singleton, List.map_cons, List.map_nil, List.cons_append, List.nil_append, List.set_cons_zero, List.set_cons_succ, List.replicate_succ, List.replicate_zero, List.append_nil, Nat.reduceAdd, Nat.reduceSub, Nat.zero_add, Nat.sub_self, Nat.reduceEqDiff, Nat.reduceLeDiff, if_true, if_false, ite_true, ite_false, reduceIte, decide_true, decide_false, Bool.not_true, Bool.not_false, true_and, and_true, ea, m12]
    refine Ho.call (make_ok f12 S') ?_
    rintro v S2 ⟨k, rfl, p2, b2⟩
    have m6 := mulS_ok (S := S2) 97 6 (by omega)
    have m6 : pyMulS (.str (one 97)) (.int 6) S2 = _ := m6
    simp only [ho_ok, ho_ret, ho_bd, ho_bdI, ho_bdO, hos_nx, hos_rt, hos_bk, hos_ct, hos_onx, hos_ort, hos_exS, hos_exT, hos_exA, hos_exI, nxt_nx, nxt_rt, nxt_bk, nxt_ct, hos_seq, hos_asg, fin_nx, fin_rt, ho_body1, ho_body2, ho_body3, ho_body4, ho_meth, ho_bm, ho_prop, ho_if, hos_if, ho_and, ho_or, ho_andT, ho_orT, ho_ite, ho_chain, ret_d, ngW_b, blM_b, truM_b, getSl_0, getSl_s, lstM_d, tupM_d, add_ii, add_ss, sub_ii, mul_ii, fdiv_ii, mod_ii, pow_ii, lt_ii, le_ii, gt_ii, ge_ii, eq_ii, ne_ii, eq_ss, ne_ss, intM_i, lenM_t, ixM_t, seqV_s, seqV_t, partM_i, in_1, List.length_cons, List.length_nil, List.length_singleton, List.map_cons, List.map_nil, List.cons_append, List.nil_append, List.set_cons_zero, List.set_cons_succ, List.replicate_succ, List.replicate_zero, List.append_nil, Nat.reduceAdd, Nat.reduceSub, Nat.zero_add, Nat.sub_self, Nat.reduceEqDiff, Nat.reduceLeDiff, if_true, if_false, ite_true, ite_false, reduceIte, decide_true, decide_false, Bool.not_true, Bool.not_false, true_and, and_true, m6]
    refine Ho.call (paper_count_ok (t := List.replicate 6 97) f12 b2 (by decide) (fun c hc => by rw [List.eq_of_mem_replicate hc]; decide) (by decide)) ?_
    rintro v S3 ⟨rfl, p3⟩
    simp only [ho_ok, ho_ret, ho_bd, ho_bdI, ho_bdO, hos_nx, hos_rt, hos_bk, hos_ct, hos_onx, hos_ort, hos_exS, hos_exT, hos_exA, hos_exI, nxt_nx, nxt_rt, nxt_bk, nxt_ct, hos_seq, hos_asg, fin_nx, fin_rt, ho_body1, ho_body2, ho_body3, ho_body4, ho_meth, ho_bm, ho_prop, ho_if, hos_if, ho_and, ho_or, ho_andT, ho_orT, ho_ite, ho_chain, ret_d, ngW_b, blM_b, truM_b, getSl_0, getSl_s, lstM_d, tupM_d, add_ii, add_ss, sub_ii, mul_ii, fdiv_ii, mod_ii, pow_ii, lt_ii, le_ii, gt_ii, ge_ii, eq_ii, ne_ii, eq_ss, ne_ss, intM_i, lenM_t, ixM_t, seqV_s, seqV_t, partM_i, in_1, List.length_cons, List.length_nil, List.length_singleton, List.map_cons, List.map_nil, List.cons_append, List.nil_append, List.set_cons_zero, List.set_cons_succ, List.replicate_succ, List.replicate_zero, List.append_nil, Nat.reduceAdd, Nat.reduceSub, Nat.zero_add, Nat.sub_self, Nat.reduceEqDiff, Nat.reduceLeDiff, if_true, if_false, ite_true, ite_false, reduceIte, decide_true, decide_false, Bool.not_true, Bool.not_false, true_and, and_true, ways_924]
    rfl
end Lw


namespace Lw
open PySem L2 RP
set_option maxHeartbeats 4000000 in
theorem all_mk {P : Program} {w : World} {K : PySem.W.Frag} {h : Heap} {mg : Str → Option Value} {fa : Addr} (X : K.In h) (Gn : h.Ns mainGlobals mg) (hfa : mg "law" = some (.ref fa))
    {c_Bath : Addr}
    {c_Tray : Addr}
    {f_is_number : Addr}
    {f_is_letter : Addr}
    {f_are_signs : Addr}
    {f_is_size : Addr}
    {f_BathD_initD : Addr}
    {f_Bath_width : Addr}
    {f_Bath_height : Addr}
    {f_Bath_cells : Addr}
    {f_BathD_lenD : Addr}
    {f_BathD_eqD : Addr}
    {f_are_strides : Addr}
    {f_are_cells : Addr}
    {f_is_draw : Addr}
    {f_is_deed : Addr}
    {f_check_recipe : Addr}
    {f_drawn : Addr}
    {f_pushed : Addr}
    {f_TrayD_initD : Addr}
    {f_Tray_do : Addr}
    {f_all_steps : Addr}
    {f_check_places : Addr}
    {f_check_text : Addr}
    {f_check_some : Addr}
    {f_paper_count : Addr}
    {f_first_paper : Addr}
    {f_moments : Addr}
    {f__law_taken : Addr}
    {f__law_bath : Addr}
    {f__law_strides : Addr}
    {f__law_some : Addr}
    {f__law_deed : Addr}
    {f__law_behind : Addr}
    {f__law_rows : Addr}
    {f__law_small : Addr}
    {f__law_subsets : Addr}
    {f_law : Addr}
    {p_Bath_width : Addr} {rest_Bath_width : List Value}
    {p_Bath_height : Addr} {rest_Bath_height : List Value}
    {p_Bath_cells : Addr} {rest_Bath_cells : List Value}
    {s_Bath_parts : Addr}
    {od_is_number an_is_number : Option Addr} {sl_is_number : Array (Option Value)} {oc_is_number kV_is_number dc_is_number pm_is_number cd_is_number ct_is_number : Value}
    {od_is_letter an_is_letter : Option Addr} {sl_is_letter : Array (Option Value)} {oc_is_letter kV_is_letter dc_is_letter pm_is_letter cd_is_letter ct_is_letter : Value}
    {od_are_signs an_are_signs : Option Addr} {sl_are_signs : Array (Option Value)} {oc_are_signs kV_are_signs dc_are_signs pm_are_signs cd_are_signs ct_are_signs : Value}
    {od_is_size an_is_size : Option Addr} {sl_is_size : Array (Option Value)} {oc_is_size kV_is_size dc_is_size pm_is_size cd_is_size ct_is_size : Value}
    {od_BathD_initD an_BathD_initD : Option Addr} {sl_BathD_initD : Array (Option Value)} {oc_BathD_initD kV_BathD_initD dc_BathD_initD pm_BathD_initD cd_BathD_initD ct_BathD_initD : Value}
    {od_Bath_width an_Bath_width : Option Addr} {sl_Bath_width : Array (Option Value)} {oc_Bath_width kV_Bath_width dc_Bath_width pm_Bath_width cd_Bath_width ct_Bath_width : Value}
    {od_Bath_height an_Bath_height : Option Addr} {sl_Bath_height : Array (Option Value)} {oc_Bath_height kV_Bath_height dc_Bath_height pm_Bath_height cd_Bath_height ct_Bath_height : Value}
    {od_Bath_cells an_Bath_cells : Option Addr} {sl_Bath_cells : Array (Option Value)} {oc_Bath_cells kV_Bath_cells dc_Bath_cells pm_Bath_cells cd_Bath_cells ct_Bath_cells : Value}
    {od_BathD_lenD an_BathD_lenD : Option Addr} {sl_BathD_lenD : Array (Option Value)} {oc_BathD_lenD kV_BathD_lenD dc_BathD_lenD pm_BathD_lenD cd_BathD_lenD ct_BathD_lenD : Value}
    {od_BathD_eqD an_BathD_eqD : Option Addr} {sl_BathD_eqD : Array (Option Value)} {oc_BathD_eqD kV_BathD_eqD dc_BathD_eqD pm_BathD_eqD cd_BathD_eqD ct_BathD_eqD : Value}
    {od_are_strides an_are_strides : Option Addr} {sl_are_strides : Array (Option Value)} {oc_are_strides kV_are_strides dc_are_strides pm_are_strides cd_are_strides ct_are_strides : Value}
    {od_are_cells an_are_cells : Option Addr} {sl_are_cells : Array (Option Value)} {oc_are_cells kV_are_cells dc_are_cells pm_are_cells cd_are_cells ct_are_cells : Value}
    {od_is_draw an_is_draw : Option Addr} {sl_is_draw : Array (Option Value)} {oc_is_draw kV_is_draw dc_is_draw pm_is_draw cd_is_draw ct_is_draw : Value}
    {od_is_deed an_is_deed : Option Addr} {sl_is_deed : Array (Option Value)} {oc_is_deed kV_is_deed dc_is_deed pm_is_deed cd_is_deed ct_is_deed : Value}
    {od_check_recipe an_check_recipe : Option Addr} {sl_check_recipe : Array (Option Value)} {oc_check_recipe kV_check_recipe dc_check_recipe pm_check_recipe cd_check_recipe ct_check_recipe : Value}
    {od_drawn an_drawn : Option Addr} {sl_drawn : Array (Option Value)} {oc_drawn kV_drawn dc_drawn pm_drawn cd_drawn ct_drawn : Value}
    {od_pushed an_pushed : Option Addr} {sl_pushed : Array (Option Value)} {oc_pushed kV_pushed dc_pushed pm_pushed cd_pushed ct_pushed : Value}
    {od_TrayD_initD an_TrayD_initD : Option Addr} {sl_TrayD_initD : Array (Option Value)} {oc_TrayD_initD kV_TrayD_initD dc_TrayD_initD pm_TrayD_initD cd_TrayD_initD ct_TrayD_initD : Value}
    {od_Tray_do an_Tray_do : Option Addr} {sl_Tray_do : Array (Option Value)} {oc_Tray_do kV_Tray_do dc_Tray_do pm_Tray_do cd_Tray_do ct_Tray_do : Value}
    {od_all_steps an_all_steps : Option Addr} {sl_all_steps : Array (Option Value)} {oc_all_steps kV_all_steps dc_all_steps pm_all_steps cd_all_steps ct_all_steps : Value}
    {od_check_places an_check_places : Option Addr} {sl_check_places : Array (Option Value)} {oc_check_places kV_check_places dc_check_places pm_check_places cd_check_places ct_check_places : Value}
    {od_check_text an_check_text : Option Addr} {sl_check_text : Array (Option Value)} {oc_check_text kV_check_text dc_check_text pm_check_text cd_check_text ct_check_text : Value}
    {od_check_some an_check_some : Option Addr} {sl_check_some : Array (Option Value)} {oc_check_some kV_check_some dc_check_some pm_check_some cd_check_some ct_check_some : Value}
    {od_paper_count an_paper_count : Option Addr} {sl_paper_count : Array (Option Value)} {oc_paper_count kV_paper_count dc_paper_count pm_paper_count cd_paper_count ct_paper_count : Value}
    {od_first_paper an_first_paper : Option Addr} {sl_first_paper : Array (Option Value)} {oc_first_paper kV_first_paper dc_first_paper pm_first_paper cd_first_paper ct_first_paper : Value}
    {od_moments an_moments : Option Addr} {sl_moments : Array (Option Value)} {oc_moments kV_moments dc_moments pm_moments cd_moments ct_moments : Value}
    {od__law_taken an__law_taken : Option Addr} {sl__law_taken : Array (Option Value)} {oc__law_taken kV__law_taken dc__law_taken pm__law_taken cd__law_taken ct__law_taken : Value}
    {od__law_bath an__law_bath : Option Addr} {sl__law_bath : Array (Option Value)} {oc__law_bath kV__law_bath dc__law_bath pm__law_bath cd__law_bath ct__law_bath : Value}
    {od__law_strides an__law_strides : Option Addr} {sl__law_strides : Array (Option Value)} {oc__law_strides kV__law_strides dc__law_strides pm__law_strides cd__law_strides ct__law_strides : Value}
    {od__law_some an__law_some : Option Addr} {sl__law_some : Array (Option Value)} {oc__law_some kV__law_some dc__law_some pm__law_some cd__law_some ct__law_some : Value}
    {od__law_deed an__law_deed : Option Addr} {sl__law_deed : Array (Option Value)} {oc__law_deed kV__law_deed dc__law_deed pm__law_deed cd__law_deed ct__law_deed : Value}
    {od__law_behind an__law_behind : Option Addr} {sl__law_behind : Array (Option Value)} {oc__law_behind kV__law_behind dc__law_behind pm__law_behind cd__law_behind ct__law_behind : Value}
    {od__law_rows an__law_rows : Option Addr} {sl__law_rows : Array (Option Value)} {oc__law_rows kV__law_rows dc__law_rows pm__law_rows cd__law_rows ct__law_rows : Value}
    {od__law_small an__law_small : Option Addr} {sl__law_small : Array (Option Value)} {oc__law_small kV__law_small dc__law_small pm__law_small cd__law_small ct__law_small : Value}
    {od__law_subsets an__law_subsets : Option Addr} {sl__law_subsets : Array (Option Value)} {oc__law_subsets kV__law_subsets dc__law_subsets pm__law_subsets cd__law_subsets ct__law_subsets : Value}
    {od_law an_law : Option Addr} {sl_law : Array (Option Value)} {oc_law kV_law dc_law pm_law cd_law ct_law : Value}
    {tk_COMB : Nat}
    {tk_DROP : Nat}
    {tk_LETTERS : Nat}
    {tk_MAX_CELLS : Nat}
    {tk_MAX_DEEDS : Nat}
    {tk_MAX_SIDE : Nat}
    {tk_MAX_STRIDE : Nat}
    {tk_NOTHING : Nat}
    {tk_PAPER : Nat}
    {tk_RAKE : Nat}
    (h_a_is_number : PySem.W.nsIn K mainGlobals "is_number" = some (some (.ref f_is_number)))
    (h_a_is_letter : PySem.W.nsIn K mainGlobals "is_letter" = some (some (.ref f_is_letter)))
    (h_a_are_signs : PySem.W.nsIn K mainGlobals "are_signs" = some (some (.ref f_are_signs)))
    (h_a_is_size : PySem.W.nsIn K mainGlobals "is_size" = some (some (.ref f_is_size)))
    (h_a_are_strides : PySem.W.nsIn K mainGlobals "are_strides" = some (some (.ref f_are_strides)))
    (h_a_are_cells : PySem.W.nsIn K mainGlobals "are_cells" = some (some (.ref f_are_cells)))
    (h_a_is_draw : PySem.W.nsIn K mainGlobals "is_draw" = some (some (.ref f_is_draw)))
    (h_a_is_deed : PySem.W.nsIn K mainGlobals "is_deed" = some (some (.ref f_is_deed)))
    (h_a_check_recipe : PySem.W.nsIn K mainGlobals "check_recipe" = some (some (.ref f_check_recipe)))
    (h_a_drawn : PySem.W.nsIn K mainGlobals "drawn" = some (some (.ref f_drawn)))
    (h_a_pushed : PySem.W.nsIn K mainGlobals "pushed" = some (some (.ref f_pushed)))
    (h_a_all_steps : PySem.W.nsIn K mainGlobals "all_steps" = some (some (.ref f_all_steps)))
    (h_a_check_places : PySem.W.nsIn K mainGlobals "check_places" = some (some (.ref f_check_places)))
    (h_a_check_text : PySem.W.nsIn K mainGlobals "check_text" = some (some (.ref f_check_text)))
    (h_a_check_some : PySem.W.nsIn K mainGlobals "check_some" = some (some (.ref f_check_some)))
    (h_a_paper_count : PySem.W.nsIn K mainGlobals "paper_count" = some (some (.ref f_paper_count)))
    (h_a_first_paper : PySem.W.nsIn K mainGlobals "first_paper" = some (some (.ref f_first_paper)))
    (h_a_moments : PySem.W.nsIn K mainGlobals "moments" = some (some (.ref f_moments)))
    (h_a__law_taken : PySem.W.nsIn K mainGlobals "_law_taken" = some (some (.ref f__law_taken)))
    (h_a__law_bath : PySem.W.nsIn K mainGlobals "_law_bath" = some (some (.ref f__law_bath)))
    (h_a__law_strides : PySem.W.nsIn K mainGlobals "_law_strides" = some (some (.ref f__law_strides)))
    (h_a__law_some : PySem.W.nsIn K mainGlobals "_law_some" = some (some (.ref f__law_some)))
    (h_a__law_deed : PySem.W.nsIn K mainGlobals "_law_deed" = some (some (.ref f__law_deed)))
    (h_a__law_behind : PySem.W.nsIn K mainGlobals "_law_behind" = some (some (.ref f__law_behind)))
    (h_a__law_rows : PySem.W.nsIn K mainGlobals "_law_rows" = some (some (.ref f__law_rows)))
    (h_a__law_small : PySem.W.nsIn K mainGlobals "_law_small" = some (some (.ref f__law_small)))
    (h_a__law_subsets : PySem.W.nsIn K mainGlobals "_law_subsets" = some (some (.ref f__law_subsets)))
    (h_a_law : PySem.W.nsIn K mainGlobals "law" = some (some (.ref f_law)))
    (h_a_Bath : PySem.W.nsIn K mainGlobals "Bath" = some (some (.ref c_Bath)))
    (h_a_Tray : PySem.W.nsIn K mainGlobals "Tray" = some (some (.ref c_Tray)))
    (h_m_BathD_initD : PySem.W.findIn K (.ref c_Bath) "__init__" = some (some (.ref f_BathD_initD)))
    (h_i_BathD_initD : PySem.W.isFn K (.ref f_BathD_initD) = true)
    (h_pa_Bath_width : PySem.W.findIn K (.ref c_Bath) "width" = some (some (.ref p_Bath_width)))
    (h_pr_Bath_width : PySem.W.recIn K p_Bath_width "property" = some (.ref f_Bath_width :: rest_Bath_width))
    (h_pg_Bath_width : PySem.W.specialIn K (.ref p_Bath_width) "__get__" = some (some (.builtin "property.__get__")))
    (h_pt_Bath_width : PySem.W.takesIn K (.ref p_Bath_width) = some true)
    (h_pa_Bath_height : PySem.W.findIn K (.ref c_Bath) "height" = some (some (.ref p_Bath_height)))
    (h_pr_Bath_height : PySem.W.recIn K p_Bath_height "property" = some (.ref f_Bath_height :: rest_Bath_height))
    (h_pg_Bath_height : PySem.W.specialIn K (.ref p_Bath_height) "__get__" = some (some (.builtin "property.__get__")))
    (h_pt_Bath_height : PySem.W.takesIn K (.ref p_Bath_height) = some true)
    (h_pa_Bath_cells : PySem.W.findIn K (.ref c_Bath) "cells" = some (some (.ref p_Bath_cells)))
    (h_pr_Bath_cells : PySem.W.recIn K p_Bath_cells "property" = some (.ref f_Bath_cells :: rest_Bath_cells))
    (h_pg_Bath_cells : PySem.W.specialIn K (.ref p_Bath_cells) "__get__" = some (some (.builtin "property.__get__")))
    (h_pt_Bath_cells : PySem.W.takesIn K (.ref p_Bath_cells) = some true)
    (h_m_BathD_lenD : PySem.W.findIn K (.ref c_Bath) "__len__" = some (some (.ref f_BathD_lenD)))
    (h_i_BathD_lenD : PySem.W.isFn K (.ref f_BathD_lenD) = true)
    (h_m_BathD_eqD : PySem.W.findIn K (.ref c_Bath) "__eq__" = some (some (.ref f_BathD_eqD)))
    (h_i_BathD_eqD : PySem.W.isFn K (.ref f_BathD_eqD) = true)
    (h_pg_Bath : PySem.W.plainGet K c_Bath Str.empty = true)
    (h_po_Bath : PySem.W.plainOver K c_Bath = true)
    (h_sa_Bath : PySem.W.findIn K (.ref c_Bath) "__setattr__" = some (some (.builtin "object.__setattr__")))
    (h_ic_Bath : PySem.W.isClsIn K c_Bath = true)
    (h_mk_Bath : PySem.W.makesIn K c_Bath = true)
    (h_kc_Bath : PySem.W.keepIn K (.ref c_Bath) = true)
    (h_fa_Bath_parts : PySem.W.findIn K (.ref c_Bath) "parts" = some (some (.ref s_Bath_parts)))
    (h_fg_Bath_parts : PySem.W.specialIn K (.ref s_Bath_parts) "__get__" = some (some (.builtin "member_descriptor.__get__")))
    (h_ft_Bath_parts : PySem.W.takesIn K (.ref s_Bath_parts) = some true)
    (h_fy_Bath_parts : PySem.W.typeIn K (.ref s_Bath_parts) = some (.type "member_descriptor"))
    (h_fi_Bath_parts : PySem.W.slotIn K s_Bath_parts c_Bath = some 0)
    (h_ca_Bath : PySem.W.findIn K (.ref c_Bath) "__class__" = some (some (.builtin "object.__class__")))
    (h_cn_Bath : PySem.W.specialIn K (.builtin "object.__class__") "__get__" = some (some (.builtin "getset_descriptor.__get__")))
    (h_ct_Bath : PySem.W.takesIn K (.builtin "object.__class__") = some true)
    (h_cm_Bath : PySem.W.mroIn K c_Bath (.type "object") = some true)
    (h_ki_Bath : PySem.W.kitOne K (.ref c_Bath) (.ref c_Bath) = some true)
    (h_m_TrayD_initD : PySem.W.findIn K (.ref c_Tray) "__init__" = some (some (.ref f_TrayD_initD)))
    (h_i_TrayD_initD : PySem.W.isFn K (.ref f_TrayD_initD) = true)
    (h_m_Tray_do : PySem.W.findIn K (.ref c_Tray) "do" = some (some (.ref f_Tray_do)))
    (h_i_Tray_do : PySem.W.isFn K (.ref f_Tray_do) = true)
    (h_pg_Tray : PySem.W.plainGet K c_Tray Str.empty = true)
    (h_po_Tray : PySem.W.plainOver K c_Tray = true)
    (h_sa_Tray : PySem.W.findIn K (.ref c_Tray) "__setattr__" = some (some (.builtin "object.__setattr__")))
    (h_hd_Tray : PySem.W.hasDictIn K c_Tray = true)
    (h_mk_Tray : PySem.W.makesIn K c_Tray = true)
    (h_kc_Tray : PySem.W.keepIn K (.ref c_Tray) = true)
    (h_fa_Tray_size : PySem.W.findIn K (.ref c_Tray) "size" = some none)
    (h_fa_Tray_things : PySem.W.findIn K (.ref c_Tray) "things" = some none)
    (h_fa_Tray_papers : PySem.W.findIn K (.ref c_Tray) "papers" = some none)
    (h_l_is_number : K.lookup f_is_number = some ⟨oc_is_number, od_is_number, .func (PySem.W.fnOf "is_number" "is_number" (defArgs s_is_number) (defBody s_is_number) (defScope s_is_number) .none kV_is_number dc_is_number pm_is_number an_is_number cd_is_number ct_is_number), sl_is_number⟩)
    (h_c_is_number : PySem.W.codeIn K cd_is_number "is_number" = true)
    (h_k_is_number : PySem.W.keepIn K (.ref f_is_number) = true)
    (h_l_is_letter : K.lookup f_is_letter = some ⟨oc_is_letter, od_is_letter, .func (PySem.W.fnOf "is_letter" "is_letter" (defArgs s_is_letter) (defBody s_is_letter) (defScope s_is_letter) .none kV_is_letter dc_is_letter pm_is_letter an_is_letter cd_is_letter ct_is_letter), sl_is_letter⟩)
    (h_c_is_letter : PySem.W.codeIn K cd_is_letter "is_letter" = true)
    (h_k_is_letter : PySem.W.keepIn K (.ref f_is_letter) = true)
    (h_l_are_signs : K.lookup f_are_signs = some ⟨oc_are_signs, od_are_signs, .func (PySem.W.fnOf "are_signs" "are_signs" (defArgs s_are_signs) (defBody s_are_signs) (defScope s_are_signs) .none kV_are_signs dc_are_signs pm_are_signs an_are_signs cd_are_signs ct_are_signs), sl_are_signs⟩)
    (h_c_are_signs : PySem.W.codeIn K cd_are_signs "are_signs" = true)
    (h_k_are_signs : PySem.W.keepIn K (.ref f_are_signs) = true)
    (h_l_is_size : K.lookup f_is_size = some ⟨oc_is_size, od_is_size, .func (PySem.W.fnOf "is_size" "is_size" (defArgs s_is_size) (defBody s_is_size) (defScope s_is_size) .none kV_is_size dc_is_size pm_is_size an_is_size cd_is_size ct_is_size), sl_is_size⟩)
    (h_c_is_size : PySem.W.codeIn K cd_is_size "is_size" = true)
    (h_k_is_size : PySem.W.keepIn K (.ref f_is_size) = true)
    (h_l_BathD_initD : K.lookup f_BathD_initD = some ⟨oc_BathD_initD, od_BathD_initD, .func (PySem.W.fnOf "__init__" "Bath.__init__" (defArgs s_BathD_initD) (defBody s_BathD_initD) (defScope s_BathD_initD) .none kV_BathD_initD dc_BathD_initD pm_BathD_initD an_BathD_initD cd_BathD_initD ct_BathD_initD), sl_BathD_initD⟩)
    (h_c_BathD_initD : PySem.W.codeIn K cd_BathD_initD "Bath.__init__" = true)
    (h_k_BathD_initD : PySem.W.keepIn K (.ref f_BathD_initD) = true)
    (h_l_Bath_width : K.lookup f_Bath_width = some ⟨oc_Bath_width, od_Bath_width, .func (PySem.W.fnOf "width" "Bath.width" (defArgs s_Bath_width) (defBody s_Bath_width) (defScope s_Bath_width) .none kV_Bath_width dc_Bath_width pm_Bath_width an_Bath_width cd_Bath_width ct_Bath_width), sl_Bath_width⟩)
    (h_c_Bath_width : PySem.W.codeIn K cd_Bath_width "Bath.width" = true)
    (h_k_Bath_width : PySem.W.keepIn K (.ref f_Bath_width) = true)
    (h_l_Bath_height : K.lookup f_Bath_height = some ⟨oc_Bath_height, od_Bath_height, .func (PySem.W.fnOf "height" "Bath.height" (defArgs s_Bath_height) (defBody s_Bath_height) (defScope s_Bath_height) .none kV_Bath_height dc_Bath_height pm_Bath_height an_Bath_height cd_Bath_height ct_Bath_height), sl_Bath_height⟩)
    (h_c_Bath_height : PySem.W.codeIn K cd_Bath_height "Bath.height" = true)
    (h_k_Bath_height : PySem.W.keepIn K (.ref f_Bath_height) = true)
    (h_l_Bath_cells : K.lookup f_Bath_cells = some ⟨oc_Bath_cells, od_Bath_cells, .func (PySem.W.fnOf "cells" "Bath.cells" (defArgs s_Bath_cells) (defBody s_Bath_cells) (defScope s_Bath_cells) .none kV_Bath_cells dc_Bath_cells pm_Bath_cells an_Bath_cells cd_Bath_cells ct_Bath_cells), sl_Bath_cells⟩)
    (h_c_Bath_cells : PySem.W.codeIn K cd_Bath_cells "Bath.cells" = true)
    (h_k_Bath_cells : PySem.W.keepIn K (.ref f_Bath_cells) = true)
    (h_l_BathD_lenD : K.lookup f_BathD_lenD = some ⟨oc_BathD_lenD, od_BathD_lenD, .func (PySem.W.fnOf "__len__" "Bath.__len__" (defArgs s_BathD_lenD) (defBody s_BathD_lenD) (defScope s_BathD_lenD) .none kV_BathD_lenD dc_BathD_lenD pm_BathD_lenD an_BathD_lenD cd_BathD_lenD ct_BathD_lenD), sl_BathD_lenD⟩)
    (h_c_BathD_lenD : PySem.W.codeIn K cd_BathD_lenD "Bath.__len__" = true)
    (h_k_BathD_lenD : PySem.W.keepIn K (.ref f_BathD_lenD) = true)
    (h_l_BathD_eqD : K.lookup f_BathD_eqD = some ⟨oc_BathD_eqD, od_BathD_eqD, .func (PySem.W.fnOf "__eq__" "Bath.__eq__" (defArgs s_BathD_eqD) (defBody s_BathD_eqD) (defScope s_BathD_eqD) .none kV_BathD_eqD dc_BathD_eqD pm_BathD_eqD an_BathD_eqD cd_BathD_eqD ct_BathD_eqD), sl_BathD_eqD⟩)
    (h_c_BathD_eqD : PySem.W.codeIn K cd_BathD_eqD "Bath.__eq__" = true)
    (h_k_BathD_eqD : PySem.W.keepIn K (.ref f_BathD_eqD) = true)
    (h_l_are_strides : K.lookup f_are_strides = some ⟨oc_are_strides, od_are_strides, .func (PySem.W.fnOf "are_strides" "are_strides" (defArgs s_are_strides) (defBody s_are_strides) (defScope s_are_strides) .none kV_are_strides dc_are_strides pm_are_strides an_are_strides cd_are_strides ct_are_strides), sl_are_strides⟩)
    (h_c_are_strides : PySem.W.codeIn K cd_are_strides "are_strides" = true)
    (h_k_are_strides : PySem.W.keepIn K (.ref f_are_strides) = true)
    (h_l_are_cells : K.lookup f_are_cells = some ⟨oc_are_cells, od_are_cells, .func (PySem.W.fnOf "are_cells" "are_cells" (defArgs s_are_cells) (defBody s_are_cells) (defScope s_are_cells) .none kV_are_cells dc_are_cells pm_are_cells an_are_cells cd_are_cells ct_are_cells), sl_are_cells⟩)
    (h_c_are_cells : PySem.W.codeIn K cd_are_cells "are_cells" = true)
    (h_k_are_cells : PySem.W.keepIn K (.ref f_are_cells) = true)
    (h_l_is_draw : K.lookup f_is_draw = some ⟨oc_is_draw, od_is_draw, .func (PySem.W.fnOf "is_draw" "is_draw" (defArgs s_is_draw) (defBody s_is_draw) (defScope s_is_draw) .none kV_is_draw dc_is_draw pm_is_draw an_is_draw cd_is_draw ct_is_draw), sl_is_draw⟩)
    (h_c_is_draw : PySem.W.codeIn K cd_is_draw "is_draw" = true)
    (h_k_is_draw : PySem.W.keepIn K (.ref f_is_draw) = true)
    (h_l_is_deed : K.lookup f_is_deed = some ⟨oc_is_deed, od_is_deed, .func (PySem.W.fnOf "is_deed" "is_deed" (defArgs s_is_deed) (defBody s_is_deed) (defScope s_is_deed) .none kV_is_deed dc_is_deed pm_is_deed an_is_deed cd_is_deed ct_is_deed), sl_is_deed⟩)
    (h_c_is_deed : PySem.W.codeIn K cd_is_deed "is_deed" = true)
    (h_k_is_deed : PySem.W.keepIn K (.ref f_is_deed) = true)
    (h_l_check_recipe : K.lookup f_check_recipe = some ⟨oc_check_recipe, od_check_recipe, .func (PySem.W.fnOf "check_recipe" "check_recipe" (defArgs s_check_recipe) (defBody s_check_recipe) (defScope s_check_recipe) .none kV_check_recipe dc_check_recipe pm_check_recipe an_check_recipe cd_check_recipe ct_check_recipe), sl_check_recipe⟩)
    (h_c_check_recipe : PySem.W.codeIn K cd_check_recipe "check_recipe" = true)
    (h_k_check_recipe : PySem.W.keepIn K (.ref f_check_recipe) = true)
    (h_l_drawn : K.lookup f_drawn = some ⟨oc_drawn, od_drawn, .func (PySem.W.fnOf "drawn" "drawn" (defArgs s_drawn) (defBody s_drawn) (defScope s_drawn) .none kV_drawn dc_drawn pm_drawn an_drawn cd_drawn ct_drawn), sl_drawn⟩)
    (h_c_drawn : PySem.W.codeIn K cd_drawn "drawn" = true)
    (h_k_drawn : PySem.W.keepIn K (.ref f_drawn) = true)
    (h_l_pushed : K.lookup f_pushed = some ⟨oc_pushed, od_pushed, .func (PySem.W.fnOf "pushed" "pushed" (defArgs s_pushed) (defBody s_pushed) (defScope s_pushed) .none kV_pushed dc_pushed pm_pushed an_pushed cd_pushed ct_pushed), sl_pushed⟩)
    (h_c_pushed : PySem.W.codeIn K cd_pushed "pushed" = true)
    (h_k_pushed : PySem.W.keepIn K (.ref f_pushed) = true)
    (h_l_TrayD_initD : K.lookup f_TrayD_initD = some ⟨oc_TrayD_initD, od_TrayD_initD, .func (PySem.W.fnOf "__init__" "Tray.__init__" (defArgs s_TrayD_initD) (defBody s_TrayD_initD) (defScope s_TrayD_initD) .none kV_TrayD_initD dc_TrayD_initD pm_TrayD_initD an_TrayD_initD cd_TrayD_initD ct_TrayD_initD), sl_TrayD_initD⟩)
    (h_c_TrayD_initD : PySem.W.codeIn K cd_TrayD_initD "Tray.__init__" = true)
    (h_k_TrayD_initD : PySem.W.keepIn K (.ref f_TrayD_initD) = true)
    (h_l_Tray_do : K.lookup f_Tray_do = some ⟨oc_Tray_do, od_Tray_do, .func (PySem.W.fnOf "do" "Tray.do" (defArgs s_Tray_do) (defBody s_Tray_do) (defScope s_Tray_do) .none kV_Tray_do dc_Tray_do pm_Tray_do an_Tray_do cd_Tray_do ct_Tray_do), sl_Tray_do⟩)
    (h_c_Tray_do : PySem.W.codeIn K cd_Tray_do "Tray.do" = true)
    (h_k_Tray_do : PySem.W.keepIn K (.ref f_Tray_do) = true)
    (h_l_all_steps : K.lookup f_all_steps = some ⟨oc_all_steps, od_all_steps, .func (PySem.W.fnOf "all_steps" "all_steps" (defArgs s_all_steps) (defBody s_all_steps) (defScope s_all_steps) .none kV_all_steps dc_all_steps pm_all_steps an_all_steps cd_all_steps ct_all_steps), sl_all_steps⟩)
    (h_c_all_steps : PySem.W.codeIn K cd_all_steps "all_steps" = true)
    (h_k_all_steps : PySem.W.keepIn K (.ref f_all_steps) = true)
    (h_l_check_places : K.lookup f_check_places = some ⟨oc_check_places, od_check_places, .func (PySem.W.fnOf "check_places" "check_places" (defArgs s_check_places) (defBody s_check_places) (defScope s_check_places) .none kV_check_places dc_check_places pm_check_places an_check_places cd_check_places ct_check_places), sl_check_places⟩)
    (h_c_check_places : PySem.W.codeIn K cd_check_places "check_places" = true)
    (h_k_check_places : PySem.W.keepIn K (.ref f_check_places) = true)
    (h_l_check_text : K.lookup f_check_text = some ⟨oc_check_text, od_check_text, .func (PySem.W.fnOf "check_text" "check_text" (defArgs s_check_text) (defBody s_check_text) (defScope s_check_text) .none kV_check_text dc_check_text pm_check_text an_check_text cd_check_text ct_check_text), sl_check_text⟩)
    (h_c_check_text : PySem.W.codeIn K cd_check_text "check_text" = true)
    (h_k_check_text : PySem.W.keepIn K (.ref f_check_text) = true)
    (h_l_check_some : K.lookup f_check_some = some ⟨oc_check_some, od_check_some, .func (PySem.W.fnOf "check_some" "check_some" (defArgs s_check_some) (defBody s_check_some) (defScope s_check_some) .none kV_check_some dc_check_some pm_check_some an_check_some cd_check_some ct_check_some), sl_check_some⟩)
    (h_c_check_some : PySem.W.codeIn K cd_check_some "check_some" = true)
    (h_k_check_some : PySem.W.keepIn K (.ref f_check_some) = true)
    (h_l_paper_count : K.lookup f_paper_count = some ⟨oc_paper_count, od_paper_count, .func (PySem.W.fnOf "paper_count" "paper_count" (defArgs s_paper_count) (defBody s_paper_count) (defScope s_paper_count) .none kV_paper_count dc_paper_count pm_paper_count an_paper_count cd_paper_count ct_paper_count), sl_paper_count⟩)
    (h_c_paper_count : PySem.W.codeIn K cd_paper_count "paper_count" = true)
    (h_k_paper_count : PySem.W.keepIn K (.ref f_paper_count) = true)
    (h_l_first_paper : K.lookup f_first_paper = some ⟨oc_first_paper, od_first_paper, .func (PySem.W.fnOf "first_paper" "first_paper" (defArgs s_first_paper) (defBody s_first_paper) (defScope s_first_paper) .none kV_first_paper dc_first_paper pm_first_paper an_first_paper cd_first_paper ct_first_paper), sl_first_paper⟩)
    (h_c_first_paper : PySem.W.codeIn K cd_first_paper "first_paper" = true)
    (h_k_first_paper : PySem.W.keepIn K (.ref f_first_paper) = true)
    (h_l_moments : K.lookup f_moments = some ⟨oc_moments, od_moments, .func (PySem.W.fnOf "moments" "moments" (defArgs s_moments) (defBody s_moments) (defScope s_moments) .none kV_moments dc_moments pm_moments an_moments cd_moments ct_moments), sl_moments⟩)
    (h_c_moments : PySem.W.codeIn K cd_moments "moments" = true)
    (h_k_moments : PySem.W.keepIn K (.ref f_moments) = true)
    (h_l__law_taken : K.lookup f__law_taken = some ⟨oc__law_taken, od__law_taken, .func (PySem.W.fnOf "_law_taken" "_law_taken" (defArgs s__law_taken) (defBody s__law_taken) (defScope s__law_taken) .none kV__law_taken dc__law_taken pm__law_taken an__law_taken cd__law_taken ct__law_taken), sl__law_taken⟩)
    (h_c__law_taken : PySem.W.codeIn K cd__law_taken "_law_taken" = true)
    (h_k__law_taken : PySem.W.keepIn K (.ref f__law_taken) = true)
    (h_l__law_bath : K.lookup f__law_bath = some ⟨oc__law_bath, od__law_bath, .func (PySem.W.fnOf "_law_bath" "_law_bath" (defArgs s__law_bath) (defBody s__law_bath) (defScope s__law_bath) .none kV__law_bath dc__law_bath pm__law_bath an__law_bath cd__law_bath ct__law_bath), sl__law_bath⟩)
    (h_c__law_bath : PySem.W.codeIn K cd__law_bath "_law_bath" = true)
    (h_k__law_bath : PySem.W.keepIn K (.ref f__law_bath) = true)
    (h_l__law_strides : K.lookup f__law_strides = some ⟨oc__law_strides, od__law_strides, .func (PySem.W.fnOf "_law_strides" "_law_strides" (defArgs s__law_strides) (defBody s__law_strides) (defScope s__law_strides) .none kV__law_strides dc__law_strides pm__law_strides an__law_strides cd__law_strides ct__law_strides), sl__law_strides⟩)
    (h_c__law_strides : PySem.W.codeIn K cd__law_strides "_law_strides" = true)
    (h_k__law_strides : PySem.W.keepIn K (.ref f__law_strides) = true)
    (h_l__law_some : K.lookup f__law_some = some ⟨oc__law_some, od__law_some, .func (PySem.W.fnOf "_law_some" "_law_some" (defArgs s__law_some) (defBody s__law_some) (defScope s__law_some) .none kV__law_some dc__law_some pm__law_some an__law_some cd__law_some ct__law_some), sl__law_some⟩)
    (h_c__law_some : PySem.W.codeIn K cd__law_some "_law_some" = true)
    (h_k__law_some : PySem.W.keepIn K (.ref f__law_some) = true)
    (h_l__law_deed : K.lookup f__law_deed = some ⟨oc__law_deed, od__law_deed, .func (PySem.W.fnOf "_law_deed" "_law_deed" (defArgs s__law_deed) (defBody s__law_deed) (defScope s__law_deed) .none kV__law_deed dc__law_deed pm__law_deed an__law_deed cd__law_deed ct__law_deed), sl__law_deed⟩)
    (h_c__law_deed : PySem.W.codeIn K cd__law_deed "_law_deed" = true)
    (h_k__law_deed : PySem.W.keepIn K (.ref f__law_deed) = true)
    (h_l__law_behind : K.lookup f__law_behind = some ⟨oc__law_behind, od__law_behind, .func (PySem.W.fnOf "_law_behind" "_law_behind" (defArgs s__law_behind) (defBody s__law_behind) (defScope s__law_behind) .none kV__law_behind dc__law_behind pm__law_behind an__law_behind cd__law_behind ct__law_behind), sl__law_behind⟩)
    (h_c__law_behind : PySem.W.codeIn K cd__law_behind "_law_behind" = true)
    (h_k__law_behind : PySem.W.keepIn K (.ref f__law_behind) = true)
    (h_l__law_rows : K.lookup f__law_rows = some ⟨oc__law_rows, od__law_rows, .func (PySem.W.fnOf "_law_rows" "_law_rows" (defArgs s__law_rows) (defBody s__law_rows) (defScope s__law_rows) .none kV__law_rows dc__law_rows pm__law_rows an__law_rows cd__law_rows ct__law_rows), sl__law_rows⟩)
    (h_c__law_rows : PySem.W.codeIn K cd__law_rows "_law_rows" = true)
    (h_k__law_rows : PySem.W.keepIn K (.ref f__law_rows) = true)
    (h_l__law_small : K.lookup f__law_small = some ⟨oc__law_small, od__law_small, .func (PySem.W.fnOf "_law_small" "_law_small" (defArgs s__law_small) (defBody s__law_small) (defScope s__law_small) .none kV__law_small dc__law_small pm__law_small an__law_small cd__law_small ct__law_small), sl__law_small⟩)
    (h_c__law_small : PySem.W.codeIn K cd__law_small "_law_small" = true)
    (h_k__law_small : PySem.W.keepIn K (.ref f__law_small) = true)
    (h_l__law_subsets : K.lookup f__law_subsets = some ⟨oc__law_subsets, od__law_subsets, .func (PySem.W.fnOf "_law_subsets" "_law_subsets" (defArgs s__law_subsets) (defBody s__law_subsets) (defScope s__law_subsets) .none kV__law_subsets dc__law_subsets pm__law_subsets an__law_subsets cd__law_subsets ct__law_subsets), sl__law_subsets⟩)
    (h_c__law_subsets : PySem.W.codeIn K cd__law_subsets "_law_subsets" = true)
    (h_k__law_subsets : PySem.W.keepIn K (.ref f__law_subsets) = true)
    (h_l_law : K.lookup f_law = some ⟨oc_law, od_law, .func (PySem.W.fnOf "law" "law" (defArgs s_law) (defBody s_law) (defScope s_law) .none kV_law dc_law pm_law an_law cd_law ct_law), sl_law⟩)
    (h_c_law : PySem.W.codeIn K cd_law "law" = true)
    (h_k_law : PySem.W.keepIn K (.ref f_law) = true)
    (h_z_all : PySem.W.nsIn K mainGlobals "all" = some none)
    (h_z_bool : PySem.W.nsIn K mainGlobals "bool" = some none)
    (h_z_enumerate : PySem.W.nsIn K mainGlobals "enumerate" = some none)
    (h_z_int : PySem.W.nsIn K mainGlobals "int" = some none)
    (h_z_isinstance : PySem.W.nsIn K mainGlobals "isinstance" = some none)
    (h_z_len : PySem.W.nsIn K mainGlobals "len" = some none)
    (h_z_list : PySem.W.nsIn K mainGlobals "list" = some none)
    (h_z_min : PySem.W.nsIn K mainGlobals "min" = some none)
    (h_z_range : PySem.W.nsIn K mainGlobals "range" = some none)
    (h_z_str : PySem.W.nsIn K mainGlobals "str" = some none)
    (h_z_tuple : PySem.W.nsIn K mainGlobals "tuple" = some none)
    (h_z_zip : PySem.W.nsIn K mainGlobals "zip" = some none)
    (h_x_COMB : PySem.W.nsIn K mainGlobals "COMB" = some (some (.str "comb" tk_COMB)))
    (h_x_DROP : PySem.W.nsIn K mainGlobals "DROP" = some (some (.str "drop" tk_DROP)))
    (h_x_LETTERS : PySem.W.nsIn K mainGlobals "LETTERS" = some (some (.str "abcdefghijklmnopqrstuvwxyz" tk_LETTERS)))
    (h_x_MAX_CELLS : PySem.W.nsIn K mainGlobals "MAX_CELLS" = some (some (.int 12 tk_MAX_CELLS)))
    (h_x_MAX_DEEDS : PySem.W.nsIn K mainGlobals "MAX_DEEDS" = some (some (.int 12 tk_MAX_DEEDS)))
    (h_x_MAX_SIDE : PySem.W.nsIn K mainGlobals "MAX_SIDE" = some (some (.int 5 tk_MAX_SIDE)))
    (h_x_MAX_STRIDE : PySem.W.nsIn K mainGlobals "MAX_STRIDE" = some (some (.int 9 tk_MAX_STRIDE)))
    (h_x_NOTHING : PySem.W.nsIn K mainGlobals "NOTHING" = some (some (.str "." tk_NOTHING)))
    (h_x_PAPER : PySem.W.nsIn K mainGlobals "PAPER" = some (some (.str "paper" tk_PAPER)))
    (h_x_RAKE : PySem.W.nsIn K mainGlobals "RAKE" = some (some (.str "rake" tk_RAKE)))
    (h_nol : noList K = true)
    : ∃ fd : FuncData, (∀ (s : Shared) (v : Value), BindsTo s fd ⟨[v], []⟩ [("_law_script", v)]) ∧ ∀ base : Heap, K.In base → base.Ns mainGlobals mg → FnOk P w K mg base (CX P w) 7 fa fd ["_law_script"] (spLaw K) := by
  have e := hfa.symm.trans (PySem.W.mg_of X Gn h_a_law)
  cases e
  have G : ∀ base : Heap, Glb ⟨P, w, K, mg, base⟩ ⟨f_is_number, f_is_letter, f_are_signs, f_is_size, f_BathD_initD, f_Bath_width, f_Bath_height, f_Bath_cells, f_BathD_lenD, f_BathD_eqD, f_are_strides, f_are_cells, f_is_draw, f_is_deed, f_check_recipe, f_drawn, f_pushed, f_TrayD_initD, f_Tray_do, f_all_steps, f_check_places, f_check_text, f_check_some, f_paper_count, f_first_paper, f_moments, f__law_taken, f__law_bath, f__law_strides, f__law_some, f__law_deed, f__law_behind, f__law_rows, f__law_small, f__law_subsets, fa, 0, 0, 0, 0, 0, c_Bath, c_Tray⟩ := fun base => {
    F_is_number := ⟨_, fun_mk (st := s_is_number) h_l_is_number h_c_is_number h_k_is_number, (fun_mk (st := s_is_number) h_l_is_number h_c_is_number h_k_is_number).binds (ps := ["value", "smallest", "largest"]) fun _ _ _ _ _ _ us hl => match us, hl with | [_, _, _], _ => rfl⟩,
    g_is_number := PySem.W.mg_of X Gn h_a_is_number,
    F_is_letter := ⟨_, fun_mk (st := s_is_letter) h_l_is_letter h_c_is_letter h_k_is_letter, (fun_mk (st := s_is_letter) h_l_is_letter h_c_is_letter h_k_is_letter).binds (ps := ["value"]) fun _ _ _ _ _ _ us hl => match us, hl with | [_], _ => rfl⟩,
    g_is_letter := PySem.W.mg_of X Gn h_a_is_letter,
    F_are_signs := ⟨_, fun_mk (st := s_are_signs) h_l_are_signs h_c_are_signs h_k_are_signs, (fun_mk (st := s_are_signs) h_l_are_signs h_c_are_signs h_k_are_signs).binds (ps := ["size", "value"]) fun _ _ _ _ _ _ us hl => match us, hl with | [_, _], _ => rfl⟩,
    g_are_signs := PySem.W.mg_of X Gn h_a_are_signs,
    F_is_size := ⟨_, fun_mk (st := s_is_size) h_l_is_size h_c_is_size h_k_is_size, (fun_mk (st := s_is_size) h_l_is_size h_c_is_size h_k_is_size).binds (ps := ["width", "height"]) fun _ _ _ _ _ _ us hl => match us, hl with | [_, _], _ => rfl⟩,
    g_is_size := PySem.W.mg_of X Gn h_a_is_size,
    F_BathD_initD := ⟨_, fun_mk (st := s_BathD_initD) h_l_BathD_initD h_c_BathD_initD h_k_BathD_initD, (fun_mk (st := s_BathD_initD) h_l_BathD_initD h_c_BathD_initD h_k_BathD_initD).binds (ps := ["self", "width", "height", "cells"]) fun _ _ _ _ _ _ us hl => match us, hl with | [_, _, _, _], _ => rfl⟩,
    F_Bath_width := ⟨_, fun_mk (st := s_Bath_width) h_l_Bath_width h_c_Bath_width h_k_Bath_width, (fun_mk (st := s_Bath_width) h_l_Bath_width h_c_Bath_width h_k_Bath_width).binds (ps := ["self"]) fun _ _ _ _ _ _ us hl => match us, hl with | [_], _ => rfl⟩,
    F_Bath_height := ⟨_, fun_mk (st := s_Bath_height) h_l_Bath_height h_c_Bath_height h_k_Bath_height, (fun_mk (st := s_Bath_height) h_l_Bath_height h_c_Bath_height h_k_Bath_height).binds (ps := ["self"]) fun _ _ _ _ _ _ us hl => match us, hl with | [_], _ => rfl⟩,
    F_Bath_cells := ⟨_, fun_mk (st := s_Bath_cells) h_l_Bath_cells h_c_Bath_cells h_k_Bath_cells, (fun_mk (st := s_Bath_cells) h_l_Bath_cells h_c_Bath_cells h_k_Bath_cells).binds (ps := ["self"]) fun _ _ _ _ _ _ us hl => match us, hl with | [_], _ => rfl⟩,
    F_BathD_lenD := ⟨_, fun_mk (st := s_BathD_lenD) h_l_BathD_lenD h_c_BathD_lenD h_k_BathD_lenD, (fun_mk (st := s_BathD_lenD) h_l_BathD_lenD h_c_BathD_lenD h_k_BathD_lenD).binds (ps := ["self"]) fun _ _ _ _ _ _ us hl => match us, hl with | [_], _ => rfl⟩,
    F_BathD_eqD := ⟨_, fun_mk (st := s_BathD_eqD) h_l_BathD_eqD h_c_BathD_eqD h_k_BathD_eqD, (fun_mk (st := s_BathD_eqD) h_l_BathD_eqD h_c_BathD_eqD h_k_BathD_eqD).binds (ps := ["self", "other"]) fun _ _ _ _ _ _ us hl => match us, hl with | [_, _], _ => rfl⟩,
    F_are_strides := ⟨_, fun_mk (st := s_are_strides) h_l_are_strides h_c_are_strides h_k_are_strides, (fun_mk (st := s_are_strides) h_l_are_strides h_c_are_strides h_k_are_strides).binds (ps := ["value", "count"]) fun _ _ _ _ _ _ us hl => match us, hl with | [_, _], _ => rfl⟩,
    g_are_strides := PySem.W.mg_of X Gn h_a_are_strides,
    F_are_cells := ⟨_, fun_mk (st := s_are_cells) h_l_are_cells h_c_are_cells h_k_are_cells, (fun_mk (st := s_are_cells) h_l_are_cells h_c_are_cells h_k_are_cells).binds (ps := ["size", "value"]) fun _ _ _ _ _ _ us hl => match us, hl with | [_, _], _ => rfl⟩,
    g_are_cells := PySem.W.mg_of X Gn h_a_are_cells,
    F_is_draw := ⟨_, fun_mk (st := s_is_draw) h_l_is_draw h_c_is_draw h_k_is_draw, (fun_mk (st := s_is_draw) h_l_is_draw h_c_is_draw h_k_is_draw).binds (ps := ["width", "height", "value"]) fun _ _ _ _ _ _ us hl => match us, hl with | [_, _, _], _ => rfl⟩,
    g_is_draw := PySem.W.mg_of X Gn h_a_is_draw,
    F_is_deed := ⟨_, fun_mk (st := s_is_deed) h_l_is_deed h_c_is_deed h_k_is_deed, (fun_mk (st := s_is_deed) h_l_is_deed h_c_is_deed h_k_is_deed).binds (ps := ["width", "height", "value"]) fun _ _ _ _ _ _ us hl => match us, hl with | [_, _, _], _ => rfl⟩,
    g_is_deed := PySem.W.mg_of X Gn h_a_is_deed,
    F_check_recipe := ⟨_, fun_mk (st := s_check_recipe) h_l_check_recipe h_c_check_recipe h_k_check_recipe, (fun_mk (st := s_check_recipe) h_l_check_recipe h_c_check_recipe h_k_check_recipe).binds (ps := ["width", "height", "recipe"]) fun _ _ _ _ _ _ us hl => match us, hl with | [_, _, _], _ => rfl⟩,
    g_check_recipe := PySem.W.mg_of X Gn h_a_check_recipe,
    F_drawn := ⟨_, fun_mk (st := s_drawn) h_l_drawn h_c_drawn h_k_drawn, (fun_mk (st := s_drawn) h_l_drawn h_c_drawn h_k_drawn).binds (ps := ["width", "height", "deed"]) fun _ _ _ _ _ _ us hl => match us, hl with | [_, _, _], _ => rfl⟩,
    g_drawn := PySem.W.mg_of X Gn h_a_drawn,
    F_pushed := ⟨_, fun_mk (st := s_pushed) h_l_pushed h_c_pushed h_k_pushed, (fun_mk (st := s_pushed) h_l_pushed h_c_pushed h_k_pushed).binds (ps := ["width", "height", "cell"]) fun _ _ _ _ _ _ us hl => match us, hl with | [_, _, _], _ => rfl⟩,
    g_pushed := PySem.W.mg_of X Gn h_a_pushed,
    F_TrayD_initD := ⟨_, fun_mk (st := s_TrayD_initD) h_l_TrayD_initD h_c_TrayD_initD h_k_TrayD_initD, (fun_mk (st := s_TrayD_initD) h_l_TrayD_initD h_c_TrayD_initD h_k_TrayD_initD).binds (ps := ["self", "width", "height", "things"]) fun _ _ _ _ _ _ us hl => match us, hl with | [_, _, _, _], _ => rfl⟩,
    F_Tray_do := ⟨_, fun_mk (st := s_Tray_do) h_l_Tray_do h_c_Tray_do h_k_Tray_do, (fun_mk (st := s_Tray_do) h_l_Tray_do h_c_Tray_do h_k_Tray_do).binds (ps := ["self", "deed", "fresh"]) fun _ _ _ _ _ _ us hl => match us, hl with | [_, _, _], _ => rfl⟩,
    F_all_steps := ⟨_, fun_mk (st := s_all_steps) h_l_all_steps h_c_all_steps h_k_all_steps, (fun_mk (st := s_all_steps) h_l_all_steps h_c_all_steps h_k_all_steps).binds (ps := ["width", "height", "cells", "recipe"]) fun _ _ _ _ _ _ us hl => match us, hl with | [_, _, _, _], _ => rfl⟩,
    g_all_steps := PySem.W.mg_of X Gn h_a_all_steps,
    F_check_places := ⟨_, fun_mk (st := s_check_places) h_l_check_places h_c_check_places h_k_check_places, (fun_mk (st := s_check_places) h_l_check_places h_c_check_places h_k_check_places).binds (ps := ["bath", "cells"]) fun _ _ _ _ _ _ us hl => match us, hl with | [_, _], _ => rfl⟩,
    g_check_places := PySem.W.mg_of X Gn h_a_check_places,
    F_check_text := ⟨_, fun_mk (st := s_check_text) h_l_check_text h_c_check_text h_k_check_text, (fun_mk (st := s_check_text) h_l_check_text h_c_check_text h_k_check_text).binds (ps := ["count", "text"]) fun _ _ _ _ _ _ us hl => match us, hl with | [_, _], _ => rfl⟩,
    g_check_text := PySem.W.mg_of X Gn h_a_check_text,
    F_check_some := ⟨_, fun_mk (st := s_check_some) h_l_check_some h_c_check_some h_k_check_some, (fun_mk (st := s_check_some) h_l_check_some h_c_check_some h_k_check_some).binds (ps := ["text"]) fun _ _ _ _ _ _ us hl => match us, hl with | [_], _ => rfl⟩,
    g_check_some := PySem.W.mg_of X Gn h_a_check_some,
    F_paper_count := ⟨_, fun_mk (st := s_paper_count) h_l_paper_count h_c_paper_count h_k_paper_count, (fun_mk (st := s_paper_count) h_l_paper_count h_c_paper_count h_k_paper_count).binds (ps := ["bath", "text"]) fun _ _ _ _ _ _ us hl => match us, hl with | [_, _], _ => rfl⟩,
    g_paper_count := PySem.W.mg_of X Gn h_a_paper_count,
    F_first_paper := ⟨_, fun_mk (st := s_first_paper) h_l_first_paper h_c_first_paper h_k_first_paper, (fun_mk (st := s_first_paper) h_l_first_paper h_c_first_paper h_k_first_paper).binds (ps := ["bath", "text"]) fun _ _ _ _ _ _ us hl => match us, hl with | [_, _], _ => rfl⟩,
    g_first_paper := PySem.W.mg_of X Gn h_a_first_paper,
    F_moments := ⟨_, fun_mk (st := s_moments) h_l_moments h_c_moments h_k_moments, (fun_mk (st := s_moments) h_l_moments h_c_moments h_k_moments).binds (ps := ["bath", "recipe", "cells", "text"]) fun _ _ _ _ _ _ us hl => match us, hl with | [_, _, _, _], _ => rfl⟩,
    g_moments := PySem.W.mg_of X Gn h_a_moments,
    F__law_taken := ⟨_, fun_mk (st := s__law_taken) h_l__law_taken h_c__law_taken h_k__law_taken, (fun_mk (st := s__law_taken) h_l__law_taken h_c__law_taken h_k__law_taken).binds (ps := ["_law_row", "_law_many"]) fun _ _ _ _ _ _ us hl => match us, hl with | [_, _], _ => rfl⟩,
    g__law_taken := PySem.W.mg_of X Gn h_a__law_taken,
    F__law_bath := ⟨_, fun_mk (st := s__law_bath) h_l__law_bath h_c__law_bath h_k__law_bath, (fun_mk (st := s__law_bath) h_l__law_bath h_c__law_bath h_k__law_bath).binds (ps := ["_law_row", "_law_most"]) fun _ _ _ _ _ _ us hl => match us, hl with | [_, _], _ => rfl⟩,
    g__law_bath := PySem.W.mg_of X Gn h_a__law_bath,
    F__law_strides := ⟨_, fun_mk (st := s__law_strides) h_l__law_strides h_c__law_strides h_k__law_strides, (fun_mk (st := s__law_strides) h_l__law_strides h_c__law_strides h_k__law_strides).binds (ps := ["_law_row", "_law_count"]) fun _ _ _ _ _ _ us hl => match us, hl with | [_, _], _ => rfl⟩,
    g__law_strides := PySem.W.mg_of X Gn h_a__law_strides,
    F__law_some := ⟨_, fun_mk (st := s__law_some) h_l__law_some h_c__law_some h_k__law_some, (fun_mk (st := s__law_some) h_l__law_some h_c__law_some h_k__law_some).binds (ps := ["_law_row", "_law_size"]) fun _ _ _ _ _ _ us hl => match us, hl with | [_, _], _ => rfl⟩,
    g__law_some := PySem.W.mg_of X Gn h_a__law_some,
    F__law_deed := ⟨_, fun_mk (st := s__law_deed) h_l__law_deed h_c__law_deed h_k__law_deed, (fun_mk (st := s__law_deed) h_l__law_deed h_c__law_deed h_k__law_deed).binds (ps := ["_law_row", "_law_bath_here"]) fun _ _ _ _ _ _ us hl => match us, hl with | [_, _], _ => rfl⟩,
    g__law_deed := PySem.W.mg_of X Gn h_a__law_deed,
    F__law_behind := ⟨_, fun_mk (st := s__law_behind) h_l__law_behind h_c__law_behind h_k__law_behind, (fun_mk (st := s__law_behind) h_l__law_behind h_c__law_behind h_k__law_behind).binds (ps := ["_law_bath_here", "_law_things", "_law_deed_here", "_law_fresh"]) fun _ _ _ _ _ _ us hl => match us, hl with | [_, _, _, _], _ => rfl⟩,
    g__law_behind := PySem.W.mg_of X Gn h_a__law_behind,
    F__law_rows := ⟨_, fun_mk (st := s__law_rows) h_l__law_rows h_c__law_rows h_k__law_rows, (fun_mk (st := s__law_rows) h_l__law_rows h_c__law_rows h_k__law_rows).binds (ps := ["_law_bath_here", "_law_recipe"]) fun _ _ _ _ _ _ us hl => match us, hl with | [_, _], _ => rfl⟩,
    g__law_rows := PySem.W.mg_of X Gn h_a__law_rows,
    F__law_small := ⟨_, fun_mk (st := s__law_small) h_l__law_small h_c__law_small h_k__law_small, (fun_mk (st := s__law_small) h_l__law_small h_c__law_small h_k__law_small).binds (ps := ["_law_row"]) fun _ _ _ _ _ _ us hl => match us, hl with | [_], _ => rfl⟩,
    g__law_small := PySem.W.mg_of X Gn h_a__law_small,
    F__law_subsets := ⟨_, fun_mk (st := s__law_subsets) h_l__law_subsets h_c__law_subsets h_k__law_subsets, (fun_mk (st := s__law_subsets) h_l__law_subsets h_c__law_subsets h_k__law_subsets).binds (ps := ["_law_size"]) fun _ _ _ _ _ _ us hl => match us, hl with | [_], _ => rfl⟩,
    g__law_subsets := PySem.W.mg_of X Gn h_a__law_subsets,
    F_law := ⟨_, fun_mk (st := s_law) h_l_law h_c_law h_k_law, (fun_mk (st := s_law) h_l_law h_c_law h_k_law).binds (ps := ["_law_script"]) fun _ _ _ _ _ _ us hl => match us, hl with | [_], _ => rfl⟩,
    g_law := PySem.W.mg_of X Gn h_a_law,
    n_all := PySem.W.mg_none_of X Gn h_z_all,
    n_bool := PySem.W.mg_none_of X Gn h_z_bool,
    n_enumerate := PySem.W.mg_none_of X Gn h_z_enumerate,
    n_int := PySem.W.mg_none_of X Gn h_z_int,
    n_isinstance := PySem.W.mg_none_of X Gn h_z_isinstance,
    n_len := PySem.W.mg_none_of X Gn h_z_len,
    n_list := PySem.W.mg_none_of X Gn h_z_list,
    n_min := PySem.W.mg_none_of X Gn h_z_min,
    n_range := PySem.W.mg_none_of X Gn h_z_range,
    n_str := PySem.W.mg_none_of X Gn h_z_str,
    n_tuple := PySem.W.mg_none_of X Gn h_z_tuple,
    n_zip := PySem.W.mg_none_of X Gn h_z_zip,
    c_COMB := ⟨_, PySem.W.mg_of X Gn h_x_COMB⟩,
    c_DROP := ⟨_, PySem.W.mg_of X Gn h_x_DROP⟩,
    c_LETTERS := ⟨_, PySem.W.mg_of X Gn h_x_LETTERS⟩,
    c_MAX_CELLS := ⟨_, PySem.W.mg_of X Gn h_x_MAX_CELLS⟩,
    c_MAX_DEEDS := ⟨_, PySem.W.mg_of X Gn h_x_MAX_DEEDS⟩,
    c_MAX_SIDE := ⟨_, PySem.W.mg_of X Gn h_x_MAX_SIDE⟩,
    c_MAX_STRIDE := ⟨_, PySem.W.mg_of X Gn h_x_MAX_STRIDE⟩,
    c_NOTHING := ⟨_, PySem.W.mg_of X Gn h_x_NOTHING⟩,
    c_PAPER := ⟨_, PySem.W.mg_of X Gn h_x_PAPER⟩,
    c_RAKE := ⟨_, PySem.W.mg_of X Gn h_x_RAKE⟩,
    mk_Bath := ⟨h_mk_Bath, h_m_BathD_initD, h_i_BathD_initD, h_kc_Bath⟩,
    g_Bath := PySem.W.mg_of X Gn h_a_Bath,
    len_Bath := ⟨h_m_BathD_lenD, h_i_BathD_lenD⟩,
    isi_Bath := ⟨⟨h_pg_Bath, h_ic_Bath, h_po_Bath, h_sa_Bath⟩, ⟨h_ca_Bath, h_cn_Bath, h_ct_Bath, h_cm_Bath⟩, h_ki_Bath⟩,
    p_Bath_width := ⟨⟨h_pg_Bath, h_ic_Bath, h_po_Bath, h_sa_Bath⟩, _, h_pa_Bath_width, h_pg_Bath_width, h_pt_Bath_width, _, h_pr_Bath_width⟩,
    p_Bath_height := ⟨⟨h_pg_Bath, h_ic_Bath, h_po_Bath, h_sa_Bath⟩, _, h_pa_Bath_height, h_pg_Bath_height, h_pt_Bath_height, _, h_pr_Bath_height⟩,
    p_Bath_cells := ⟨⟨h_pg_Bath, h_ic_Bath, h_po_Bath, h_sa_Bath⟩, _, h_pa_Bath_cells, h_pg_Bath_cells, h_pt_Bath_cells, _, h_pr_Bath_cells⟩,
    f_Bath_parts := ⟨⟨h_pg_Bath, h_ic_Bath, h_po_Bath, h_sa_Bath⟩, _, h_fa_Bath_parts, h_fg_Bath_parts, h_ft_Bath_parts, h_fy_Bath_parts, h_fi_Bath_parts, by decide⟩,
    mk_Tray := ⟨h_mk_Tray, h_m_TrayD_initD, h_i_TrayD_initD, h_kc_Tray⟩,
    g_Tray := PySem.W.mg_of X Gn h_a_Tray,
    cl_Tray := ⟨h_pg_Tray, h_hd_Tray, h_po_Tray, h_sa_Tray⟩,
    m_Tray_do := ⟨h_m_Tray_do, h_i_Tray_do, h_k_Tray_do⟩,
    f_Tray_size := ⟨⟨h_pg_Tray, h_hd_Tray, h_po_Tray, h_sa_Tray⟩, h_fa_Tray_size, rfl, by show List.Nodup (["size", "things", "papers"] : List Str); decide +kernel, by show List.length (["size", "things", "papers"] : List Str) < 900; decide⟩,
    f_Tray_things := ⟨⟨h_pg_Tray, h_hd_Tray, h_po_Tray, h_sa_Tray⟩, h_fa_Tray_things, rfl, by show List.Nodup (["size", "things", "papers"] : List Str); decide +kernel, by show List.length (["size", "things", "papers"] : List Str) < 900; decide⟩,
    f_Tray_papers := ⟨⟨h_pg_Tray, h_hd_Tray, h_po_Tray, h_sa_Tray⟩, h_fa_Tray_papers, rfl, by show List.Nodup (["size", "things", "papers"] : List Str); decide +kernel, by show List.length (["size", "things", "papers"] : List Str) < 900; decide⟩ }
  refine ⟨PySem.W.fnOf "law" "law" (defArgs s_law) (defBody s_law) (defScope s_law) .none kV_law dc_law pm_law an_law cd_law ct_law, fun s v => .of_eq rfl, fun base _ _ => ?_⟩
  exact (fn_same (fun_mk (st := s_law) h_l_law h_c_law h_k_law) ⟨rfl, rfl, rfl, by decide +kernel, rfl, by decide +kernel, by decide +kernel⟩ (r_law.2 (G base))).imp (sp_law h_nol fun _ _ _ h => law_ok h)
theorem walk {l : PySem.W.OpenLaw} {q : Program} {loose : List Str} {XP : (Str → Option Value) → Heap → Prop} {YP : World → Heap → Prop} {d : DefRec} {K : Params → PySem.W.Frag} (hn : l.most = some 63) (hdf : d.params.defaults = [])
    (hY : ∀ (w : World) (h : Heap), YP w h → (K w.params).In h)
    (F : ∀ (w : World) (mg : Str → Option Value) (fa : Addr) (h : Heap), (K w.params).In h → h.Ns mainGlobals mg → mg d.name = some (.ref fa) →
      ∃ fd : FuncData, (∀ (s : Shared) (u : Value), BindsTo s fd ⟨[u], []⟩ [("_law_script", u)]) ∧ ∀ base : Heap, (K w.params).In base → base.Ns mainGlobals mg → FnOk l.prog w (K w.params) mg base (CX l.prog w) 7 fa fd ["_law_script"] (spLaw (K w.params))) :
    PySem.W.WalkO q loose XP YP l.row.toRowW d [] (fun f vs => PySem.call f vs) :=
  L2.walk_of (n := 63) (k := 7) (x := "_law_script") (CX := fun w => CX l.prog w) (sp := fun w => spLaw (K w.params)) hn (by decide) hdf ⟨rfl, by decide, by decide⟩ hY F (fun _ _ a ns hl hO hS => ⟨a, ns, rfl, hO, hS, fun _ => rfl⟩) fun _ _ _ _ _ z => cx_no z
end Lw
open PySem PySem.W PyProof.Rows in
set_option maxRecDepth 100000 in
set_option maxHeartbeats 0 in
theorem PySem.Challenge.cw_rakedpapers_k32_texts_of_papers_holds : PySem.Challenge.rw_rakedpapers_k32_texts_of_papers.Holds := by
  w_on; o_law; k_head; (case hw => w_witness2)
  k_fill
  refine Lw.walk (l := PySem.Challenge.rw_rakedpapers_k32_texts_of_papers) rfl rfl (fun w h Y => PySem.W.kIn_of Y) ?F
  case F =>
    intro w mg fa h KX G hmg
    refine' Lw.all_mk KX G hmg ?h_a_is_number ?h_a_is_letter ?h_a_are_signs ?h_a_is_size ?h_a_are_strides ?h_a_are_cells ?h_a_is_draw ?h_a_is_deed ?h_a_check_recipe ?h_a_drawn ?h_a_pushed ?h_a_all_steps ?h_a_check_places ?h_a_check_text ?h_a_check_some ?h_a_paper_count ?h_a_first_paper ?h_a_moments ?h_a__law_taken ?h_a__law_bath ?h_a__law_strides ?h_a__law_some ?h_a__law_deed ?h_a__law_behind ?h_a__law_rows ?h_a__law_small ?h_a__law_subsets ?h_a_law ?h_a_Bath ?h_a_Tray ?h_m_BathD_initD ?h_i_BathD_initD ?h_pa_Bath_width ?h_pr_Bath_width ?h_pg_Bath_width ?h_pt_Bath_width ?h_pa_Bath_height ?h_pr_Bath_height ?h_pg_Bath_height ?h_pt_Bath_height ?h_pa_Bath_cells ?h_pr_Bath_cells ?h_pg_Bath_cells ?h_pt_Bath_cells ?h_m_BathD_lenD ?h_i_BathD_lenD ?h_m_BathD_eqD ?h_i_BathD_eqD ?h_pg_Bath ?h_po_Bath ?h_sa_Bath ?h_ic_Bath ?h_mk_Bath ?h_kc_Bath ?h_fa_Bath_parts ?h_fg_Bath_parts ?h_ft_Bath_parts ?h_fy_Bath_parts ?h_fi_Bath_parts ?h_ca_Bath ?h_cn_Bath ?h_ct_Bath ?h_cm_Bath ?h_ki_Bath ?h_m_TrayD_initD ?h_i_TrayD_initD ?h_m_Tray_do ?h_i_Tray_do ?h_pg_Tray ?h_po_Tray ?h_sa_Tray ?h_hd_Tray ?h_mk_Tray ?h_kc_Tray ?h_fa_Tray_size ?h_fa_Tray_things ?h_fa_Tray_papers ?h_l_is_number ?h_c_is_number ?h_k_is_number ?h_l_is_letter ?h_c_is_letter ?h_k_is_letter ?h_l_are_signs ?h_c_are_signs ?h_k_are_signs ?h_l_is_size ?h_c_is_size ?h_k_is_size ?h_l_BathD_initD ?h_c_BathD_initD ?h_k_BathD_initD ?h_l_Bath_width ?h_c_Bath_width ?h_k_Bath_width ?h_l_Bath_height ?h_c_Bath_height ?h_k_Bath_height ?h_l_Bath_cells ?h_c_Bath_cells ?h_k_Bath_cells ?h_l_BathD_lenD ?h_c_BathD_lenD ?h_k_BathD_lenD ?h_l_BathD_eqD ?h_c_BathD_eqD ?h_k_BathD_eqD ?h_l_are_strides ?h_c_are_strides ?h_k_are_strides ?h_l_are_cells ?h_c_are_cells ?h_k_are_cells ?h_l_is_draw ?h_c_is_draw ?h_k_is_draw ?h_l_is_deed ?h_c_is_deed ?h_k_is_deed ?h_l_check_recipe ?h_c_check_recipe ?h_k_check_recipe ?h_l_drawn ?h_c_drawn ?h_k_drawn ?h_l_pushed ?h_c_pushed ?h_k_pushed ?h_l_TrayD_initD ?h_c_TrayD_initD ?h_k_TrayD_initD ?h_l_Tray_do ?h_c_Tray_do ?h_k_Tray_do ?h_l_all_steps ?h_c_all_steps ?h_k_all_steps ?h_l_check_places ?h_c_check_places ?h_k_check_places ?h_l_check_text ?h_c_check_text ?h_k_check_text ?h_l_check_some ?h_c_check_some ?h_k_check_some ?h_l_paper_count ?h_c_paper_count ?h_k_paper_count ?h_l_first_paper ?h_c_first_paper ?h_k_first_paper ?h_l_moments ?h_c_moments ?h_k_moments ?h_l__law_taken ?h_c__law_taken ?h_k__law_taken ?h_l__law_bath ?h_c__law_bath ?h_k__law_bath ?h_l__law_strides ?h_c__law_strides ?h_k__law_strides ?h_l__law_some ?h_c__law_some ?h_k__law_some ?h_l__law_deed ?h_c__law_deed ?h_k__law_deed ?h_l__law_behind ?h_c__law_behind ?h_k__law_behind ?h_l__law_rows ?h_c__law_rows ?h_k__law_rows ?h_l__law_small ?h_c__law_small ?h_k__law_small ?h_l__law_subsets ?h_c__law_subsets ?h_k__law_subsets ?h_l_law ?h_c_law ?h_k_law ?h_z_all ?h_z_bool ?h_z_enumerate ?h_z_int ?h_z_isinstance ?h_z_len ?h_z_list ?h_z_min ?h_z_range ?h_z_str ?h_z_tuple ?h_z_zip ?h_x_COMB ?h_x_DROP ?h_x_LETTERS ?h_x_MAX_CELLS ?h_x_MAX_DEEDS ?h_x_MAX_SIDE ?h_x_MAX_STRIDE ?h_x_NOTHING ?h_x_PAPER ?h_x_RAKE ?h_nol
    (case h_a_is_number => k_is)
    (case h_a_is_letter => k_is)
    (case h_a_are_signs => k_is)
    (case h_a_is_size => k_is)
    (case h_a_are_strides => k_is)
    (case h_a_are_cells => k_is)
    (case h_a_is_draw => k_is)
    (case h_a_is_deed => k_is)
    (case h_a_check_recipe => k_is)
    (case h_a_drawn => k_is)
    (case h_a_pushed => k_is)
    (case h_a_all_steps => k_is)
    (case h_a_check_places => k_is)
    (case h_a_check_text => k_is)
    (case h_a_check_some => k_is)
    (case h_a_paper_count => k_is)
    (case h_a_first_paper => k_is)
    (case h_a_moments => k_is)
    (case h_a__law_taken => k_is)
    (case h_a__law_bath => k_is)
    (case h_a__law_strides => k_is)
    (case h_a__law_some => k_is)
    (case h_a__law_deed => k_is)
    (case h_a__law_behind => k_is)
    (case h_a__law_rows => k_is)
    (case h_a__law_small => k_is)
    (case h_a__law_subsets => k_is)
    (case h_a_law => k_is)
    (case h_a_Bath => k_is)
    (case h_a_Tray => k_is)
    (case h_m_BathD_initD => k_is)
    (case h_i_BathD_initD => k_is)
    (case h_pa_Bath_width => k_is)
    (case h_pr_Bath_width => k_is)
    (case h_pg_Bath_width => k_is)
    (case h_pt_Bath_width => k_is)
    (case h_pa_Bath_height => k_is)
    (case h_pr_Bath_height => k_is)
    (case h_pg_Bath_height => k_is)
    (case h_pt_Bath_height => k_is)
    (case h_pa_Bath_cells => k_is)
    (case h_pr_Bath_cells => k_is)
    (case h_pg_Bath_cells => k_is)
    (case h_pt_Bath_cells => k_is)
    (case h_m_BathD_lenD => k_is)
    (case h_i_BathD_lenD => k_is)
    (case h_m_BathD_eqD => k_is)
    (case h_i_BathD_eqD => k_is)
    (case h_pg_Bath => k_is)
    (case h_po_Bath => k_is)
    (case h_sa_Bath => k_is)
    (case h_ic_Bath => k_is)
    (case h_mk_Bath => k_is)
    (case h_kc_Bath => k_is)
    (case h_fa_Bath_parts => k_is)
    (case h_fg_Bath_parts => k_is)
    (case h_ft_Bath_parts => k_is)
    (case h_fy_Bath_parts => k_is)
    (case h_fi_Bath_parts => k_is)
    (case h_ca_Bath => k_is)
    (case h_cn_Bath => k_is)
    (case h_ct_Bath => k_is)
    (case h_cm_Bath => k_is)
    (case h_ki_Bath => rfl)
    (case h_m_TrayD_initD => k_is)
    (case h_i_TrayD_initD => k_is)
    (case h_m_Tray_do => k_is)
    (case h_i_Tray_do => k_is)
    (case h_pg_Tray => k_is)
    (case h_po_Tray => k_is)
    (case h_sa_Tray => k_is)
    (case h_hd_Tray => k_is)
    (case h_mk_Tray => k_is)
    (case h_kc_Tray => k_is)
    (case h_fa_Tray_size => k_is)
    (case h_fa_Tray_things => k_is)
    (case h_fa_Tray_papers => k_is)
    (case h_l_is_number => k_is)
    (case h_c_is_number => k_is)
    (case h_k_is_number => k_is)
    (case h_l_is_letter => k_is)
    (case h_c_is_letter => k_is)
    (case h_k_is_letter => k_is)
    (case h_l_are_signs => k_is)
    (case h_c_are_signs => k_is)
    (case h_k_are_signs => k_is)
    (case h_l_is_size => k_is)
    (case h_c_is_size => k_is)
    (case h_k_is_size => k_is)
    (case h_l_BathD_initD => k_is)
    (case h_c_BathD_initD => k_is)
    (case h_k_BathD_initD => k_is)
    (case h_l_Bath_width => k_is)
    (case h_c_Bath_width => k_is)
    (case h_k_Bath_width => k_is)
    (case h_l_Bath_height => k_is)
    (case h_c_Bath_height => k_is)
    (case h_k_Bath_height => k_is)
    (case h_l_Bath_cells => k_is)
    (case h_c_Bath_cells => k_is)
    (case h_k_Bath_cells => k_is)
    (case h_l_BathD_lenD => k_is)
    (case h_c_BathD_lenD => k_is)
    (case h_k_BathD_lenD => k_is)
    (case h_l_BathD_eqD => k_is)
    (case h_c_BathD_eqD => k_is)
    (case h_k_BathD_eqD => k_is)
    (case h_l_are_strides => k_is)
    (case h_c_are_strides => k_is)
    (case h_k_are_strides => k_is)
    (case h_l_are_cells => k_is)
    (case h_c_are_cells => k_is)
    (case h_k_are_cells => k_is)
    (case h_l_is_draw => k_is)
    (case h_c_is_draw => k_is)
    (case h_k_is_draw => k_is)
    (case h_l_is_deed => k_is)
    (case h_c_is_deed => k_is)
    (case h_k_is_deed => k_is)
    (case h_l_check_recipe => k_is)
    (case h_c_check_recipe => k_is)
    (case h_k_check_recipe => k_is)
    (case h_l_drawn => k_is)
    (case h_c_drawn => k_is)
    (case h_k_drawn => k_is)
    (case h_l_pushed => k_is)
    (case h_c_pushed => k_is)
    (case h_k_pushed => k_is)
    (case h_l_TrayD_initD => k_is)
    (case h_c_TrayD_initD => k_is)
    (case h_k_TrayD_initD => k_is)
    (case h_l_Tray_do => k_is)
    (case h_c_Tray_do => k_is)
    (case h_k_Tray_do => k_is)
    (case h_l_all_steps => k_is)
    (case h_c_all_steps => k_is)
    (case h_k_all_steps => k_is)
    (case h_l_check_places => k_is)
    (case h_c_check_places => k_is)
    (case h_k_check_places => k_is)
    (case h_l_check_text => k_is)
    (case h_c_check_text => k_is)
    (case h_k_check_text => k_is)
    (case h_l_check_some => k_is)
    (case h_c_check_some => k_is)
    (case h_k_check_some => k_is)
    (case h_l_paper_count => k_is)
    (case h_c_paper_count => k_is)
    (case h_k_paper_count => k_is)
    (case h_l_first_paper => k_is)
    (case h_c_first_paper => k_is)
    (case h_k_first_paper => k_is)
    (case h_l_moments => k_is)
    (case h_c_moments => k_is)
    (case h_k_moments => k_is)
    (case h_l__law_taken => k_is)
    (case h_c__law_taken => k_is)
    (case h_k__law_taken => k_is)
    (case h_l__law_bath => k_is)
    (case h_c__law_bath => k_is)
    (case h_k__law_bath => k_is)
    (case h_l__law_strides => k_is)
    (case h_c__law_strides => k_is)
    (case h_k__law_strides => k_is)
    (case h_l__law_some => k_is)
    (case h_c__law_some => k_is)
    (case h_k__law_some => k_is)
    (case h_l__law_deed => k_is)
    (case h_c__law_deed => k_is)
    (case h_k__law_deed => k_is)
    (case h_l__law_behind => k_is)
    (case h_c__law_behind => k_is)
    (case h_k__law_behind => k_is)
    (case h_l__law_rows => k_is)
    (case h_c__law_rows => k_is)
    (case h_k__law_rows => k_is)
    (case h_l__law_small => k_is)
    (case h_c__law_small => k_is)
    (case h_k__law_small => k_is)
    (case h_l__law_subsets => k_is)
    (case h_c__law_subsets => k_is)
    (case h_k__law_subsets => k_is)
    (case h_l_law => k_is)
    (case h_c_law => k_is)
    (case h_k_law => k_is)
    (case h_z_all => k_is)
    (case h_z_bool => k_is)
    (case h_z_enumerate => k_is)
    (case h_z_int => k_is)
    (case h_z_isinstance => k_is)
    (case h_z_len => k_is)
    (case h_z_list => k_is)
    (case h_z_min => k_is)
    (case h_z_range => k_is)
    (case h_z_str => k_is)
    (case h_z_tuple => k_is)
    (case h_z_zip => k_is)
    (case h_x_COMB => k_is)
    (case h_x_DROP => k_is)
    (case h_x_LETTERS => k_is)
    (case h_x_MAX_CELLS => k_is)
    (case h_x_MAX_DEEDS => k_is)
    (case h_x_MAX_SIDE => k_is)
    (case h_x_MAX_STRIDE => k_is)
    (case h_x_NOTHING => k_is)
    (case h_x_PAPER => k_is)
    (case h_x_RAKE => k_is)
    (case h_nol => rfl)

