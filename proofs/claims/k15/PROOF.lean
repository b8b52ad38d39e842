import PyProof.Rows.All
import Wide.All
import OpenK.AllK
import Wide.FinOn
import HandS.ForMost
import HandS.Call
import HandS.ClsMeth
import HandS.Conv
import HandS.Deep
import HandS.DictComp
import HandS.ExcField
import HandS.ExcInit
import HandS.ExcIs
import HandS.ExcOwn
import HandS.FStr
import HandS.ForExc
import HandS.HeadWalk
import HandS.IsInst
import HandS.Lambda
import HandS.ListItems
import HandS.NoneIn
import HandS.OwnEq
import HandS.Property
import HandS.SetKeys
import HandS.SlotsOwn
import HandS.Star
import HandS.StrMore
import HandS.Strs
import HandS.Style
import HandS.Text
import HandS.TryOnly
import HandS.TupAny
import HandS.TupLe
import HandS.TupMul
import HandS.TupSets
import HandS.WordsDict
import HandS.WordsExc
import HandS.Zip
import KE.DataFind
import KE.DataMinMax
import KE.GoesEnum
import KE.GoesMore
import KE.GoesZip
import KE.KRevSl
import KE.KeyNested
import KE.SortData
import OpenK.XHead
import PyProof.StrBlock2
import PyProof.StrLawsFirst
import PyProof.StrLawsIn
import PyProof.StrWalks
import PySem.Challenge.RW_rakedpapers_k15_known_edges
set_option Elab.async false
set_option linter.all false
set_option maxRecDepth 100000

/-! RpA: a pure state for this program: values W, objects Ob, the monad M; how they lie in the abstract heap. -/
namespace RP
open PySem L2

/-- a value: tuples are trees, all that changes is met by its number in the state -/
inductive W where
  | non | bl (b : Bool) | int (i : Int) | str (x : Str) | tup (xs : List W) | ref (i : Nat) | adr (a : Addr) | ty (n : String) | lam (f c : Addr) (q : Str)
  deriving Inhabited
/-- an object of the state: a list, the script, an instance with a dict, an instance with slots (fields by their places), a dict -/
inductive Ob where
  | lst (xs : List W) | scr (ns : List Int) | ins (c : Nat) (fs : List W) | slo (c : Nat) (fs : List W) | dct (kvs : List (Key × W))
  deriving Inhabited
abbrev Sto := List Ob
/-- an exception: its class, its fields -/
structure Exn where
  c : Nat
  fs : List W
inductive Res (α : Type) where
  | ok (a : α) (S : Sto) | ex (x : Exn) (S : Sto) | bad
abbrev M (α : Type) := Sto → Res α
def ret {α : Type} (a : α) : M α := fun S => .ok a S
def bd {α β : Type} (m : M α) (k : α → M β) : M β := fun S => match m S with
  | .ok a S' => k a S'
  | .ex x S' => .ex x S'
  | .bad => .bad
def stuck {α : Type} : M α := fun _ => .bad
abbrev Slots := List (Option W)
/-- how a statement ends -/
inductive Fl where
  | nx (sl : Slots) | rt (w : W) | bk (sl : Slots) | ct (sl : Slots) | xx (x : Exn) (sl : Slots)

/-- the classes of a text by number: their addresses, the names of their fields -/
structure Tab where
  cls : Nat → Addr
  fl : Nat → List Str
  tb : List (Addr × Str) := []
  xd : List (Addr × List (Str × V)) := []

mutual
inductive RelW (K : PySem.W.Frag) (ad : List Addr) (H : Hp) : W → V → Prop
  | non : RelW K ad H .non .non
  | bl (b : Bool) : RelW K ad H (.bl b) (.bl b)
  | int (i : Int) : RelW K ad H (.int i) (.int i)
  | str (x : Str) : RelW K ad H (.str x) (.str x)
  | tup {ws : List W} {a : Addr} {vs : List V} : SqT K H a vs → RelWs K ad H ws vs → RelW K ad H (.tup ws) (.ref a)
  | ref {i : Nat} {a : Addr} : ad[i]? = some a → RelW K ad H (.ref i) (.ref a)
  | adr (a : Addr) : RelW K ad H (.adr a) (.ref a)
  | ty (n : String) : RelW K ad H (.ty n) (.ty n)
  | lam {f c : Addr} {q : Str} : H c = some (LamX.CodeO c q) → c ∉ ad → RelW K ad H (.lam f c q) (.ref f)
inductive RelWs (K : PySem.W.Frag) (ad : List Addr) (H : Hp) : List W → List V → Prop
  | nil : RelWs K ad H [] []
  | cons {w : W} {v : V} {ws : List W} {vs : List V} : RelW K ad H w v → RelWs K ad H ws vs → RelWs K ad H (w :: ws) (v :: vs)
end

/-- what values need to stay -/
structure Up (K : PySem.W.Frag) (ad : List Addr) (H : Hp) (ad' : List Addr) (H' : Hp) : Prop where
  pre : ad <+: ad'
  fwd : ∀ a vs, SqT K H a vs → SqT K H' a vs
  cod : ∀ c q, c ∉ ad → H c = some (LamX.CodeO c q) → H' c = some (LamX.CodeO c q) ∧ c ∉ ad'
/-- what stands at an object's place is tracked, and neither a tuple nor a dict of an instance -/
def Keen : HO → Prop
  | .tup _ => False
  | .own _ => False
  | .xd _ => False
  | .tbl _ => False
  | _ => True
/-- a table of code objects, all of one name, none of the state's objects -/
def TabA (ad : List Addr) (H : Hp) (P : Addr) (q : Str) : Prop := ∃ ps : Array Value, H P = some (.tbl ps) ∧ TriplesOk ps.toList ∧ ∀ (pos : Pos) (cv : Value), codeAmong pos ps.toList = some cv → ∃ c, cv = .ref c ∧ H c = some (LamX.CodeO c q) ∧ c ∉ ad
theorem TabA.s {ad : List Addr} {H : Hp} {P : Addr} {q : Str} (h : TabA ad H P q) : LamX.TabS H P q := by
  obtain ⟨ps, h1, h2, h3⟩ := h
  exact ⟨ps, h1, h2, fun pos cv hc => let ⟨c, e1, e2, _⟩ := h3 pos cv hc; ⟨c, e1, e2⟩⟩
theorem TabA.go {ad ad' : List Addr} {H H' : Hp} {P : Addr} {q : Str} (h : TabA ad H P q) (ht : ∀ ps, H P = some (.tbl ps) → H' P = some (.tbl ps)) (hc : ∀ c, c ∉ ad → H c = some (LamX.CodeO c q) → H' c = some (LamX.CodeO c q) ∧ c ∉ ad') : TabA ad' H' P q := by
  obtain ⟨ps, h1, h2, h3⟩ := h
  refine ⟨ps, ht _ h1, h2, fun pos cv hcv => ?_⟩
  obtain ⟨c, e1, e2, e3⟩ := h3 pos cv hcv
  obtain ⟨e4, e5⟩ := hc c e3 e2
  exact ⟨c, e1, e4, e5⟩
/-- the state has gone on -/
structure Le (K : PySem.W.Frag) (ad : List Addr) (H : Hp) (ad' : List Addr) (H' : Hp) : Prop where
  pre : ad <+: ad'
  fwd : ∀ a vs, SqT K H a vs → SqT K H' a vs
  new : ∀ b ∈ ad', b ∉ ad → ∀ o, H b = some o → ¬ Keen o
  frm : ∀ b o, H b = some o → Keen o → b ∉ ad → H' b = some o
  xd : ∀ {fs : List (Str × V)} b, H b = some (.xd fs) → H' b = some (.xd fs)
  own : ∀ b x, H b = some (.own x) → H' b = some (.own x) ∨ H' b = some (.xd [])

def RelOb (T : Tab) (K : PySem.W.Frag) (ad : List Addr) (H : Hp) (a : Addr) : Ob → Prop
  | .lst ws => ∃ vs, H a = some (.lst vs) ∧ RelWs K ad H ws vs
  | .scr ns => H a = some (.lst (ns.map V.int)) ∨ ∃ o, H a = some (.frz o (.lst (ns.map V.int)))
  | .ins c ws => ∃ dx vs, H a = some (.ins (T.cls c) dx ((T.fl c).zip vs)) ∧ ws.length ≤ (T.fl c).length ∧ RelWs K ad H ws vs
  | .slo c ws => ∃ dx vs, SlX.Slt H a (T.cls c) dx (vs.map some) ∧ dx ≠ a ∧ (H dx = some (.own a) ∨ H dx = some (.xd [])) ∧ RelWs K ad H ws vs
  | .dct kvs => ∃ vs, H a = some (.dK ((kvs.map (·.1)).zip vs)) ∧ RelWs K ad H (kvs.map (·.2)) vs

structure Rel (T : Tab) (K : PySem.W.Frag) (ad : List Addr) (H : Hp) (S : Sto) : Prop where
  len : ad.length = S.length
  nd : ad.Nodup
  ob : ∀ (i : Nat) (a : Addr) (o : Ob), ad[i]? = some a → S[i]? = some o → RelOb T K ad H a o
  tabs : ∀ p ∈ T.tb, TabA ad H p.1 p.2
  xds : ∀ p ∈ T.xd, H p.1 = some (.xd p.2)

structure RelSl (K : PySem.W.Frag) (ad : List Addr) (H : Hp) (sl : Slots) (σ : St) : Prop where
  len : sl.length = σ.length
  get : ∀ (i : Nat) (w : W), sl[i]? = some (some w) → ∃ v, σ[i]? = some (some v) ∧ RelW K ad H w v

/-- an exception as the layer knows it -/
def RelX (T : Tab) (K : PySem.W.Frag) (ad : List Addr) (H : Hp) (x : Exn) (cls : Value) (d : Option Addr) : Prop :=
  cls = .ref (T.cls x.c) ∧ match x.fs with
    | [] => d = none
    | fs => ∃ dd vs, d = some dd ∧ H dd = some (.xd ((T.fl x.c).zip vs)) ∧ fs.length = (T.fl x.c).length ∧ RelWs K ad H fs vs

section
variable {K : PySem.W.Frag} {ad ad' ad2 : List Addr} {H H' H2 : Hp}
theorem Le.up (l : Le K ad H ad' H') : Up K ad H ad' H' := ⟨l.pre, l.fwd, fun c q n e => ⟨l.frm c _ e trivial n, fun z => l.new c z n _ e trivial⟩⟩
theorem Le.refl : Le K ad H ad H := ⟨List.prefix_rfl, fun _ _ h => h, fun _ h n => absurd h n, fun _ _ h _ _ => h, fun _ h => h, fun _ _ h => .inl h⟩
theorem Le.trans (a : Le K ad H ad' H') (b : Le K ad' H' ad2 H2) : Le K ad H ad2 H2 := by
  refine ⟨a.pre.trans b.pre, fun c vs h => b.fwd c vs (a.fwd c vs h), fun c h n => ?_, fun c o h k n => ?_, fun c h => b.xd c (a.xd c h), fun c x h => ?_⟩
  · by_cases q : c ∈ ad'
    · exact a.new c q n
    · exact fun o e k => b.new c h q o (a.frm c o e k n) k
  · exact b.frm c o (a.frm c o h k n) k fun q => a.new c q n o h k
  · rcases a.own c x h with q | q
    · exact b.own c x q
    · exact .inr (b.xd c q)
theorem pre_get {ad ad' : List Addr} (h : ad <+: ad') {i : Nat} {a : Addr} (e : ad[i]? = some a) : ad'[i]? = some a := by
  obtain ⟨t, rfl⟩ := h
  rw [List.getElem?_append_left (List.getElem?_eq_some_iff.mp e).1]
  exact e
mutual
theorem RelW.up (l : Up K ad H ad' H') : ∀ {w : W} {v : V}, RelW K ad H w v → RelW K ad' H' w v
  | _, _, .non => .non
  | _, _, .bl b => .bl b
  | _, _, .int b => .int b
  | _, _, .str b => .str b
  | _, _, .tup s r => .tup (l.fwd _ _ s) (RelWs.up l r)
  | _, _, .ref e => .ref (pre_get l.pre e)
  | _, _, .adr a => .adr a
  | _, _, .ty n => .ty n
  | _, _, .lam e n => .lam (l.cod _ _ n e).1 (l.cod _ _ n e).2
theorem RelWs.up (l : Up K ad H ad' H') : ∀ {ws : List W} {vs : List V}, RelWs K ad H ws vs → RelWs K ad' H' ws vs
  | _, _, .nil => .nil
  | _, _, .cons r t => .cons (RelW.up l r) (RelWs.up l t)
end
theorem RelW.mono (l : Le K ad H ad' H') {w : W} {v : V} (r : RelW K ad H w v) : RelW K ad' H' w v := r.up l.up
theorem RelWs.mono (l : Le K ad H ad' H') {ws : List W} {vs : List V} (r : RelWs K ad H ws vs) : RelWs K ad' H' ws vs := r.up l.up
theorem RelWs.length : ∀ {ws : List W} {vs : List V}, RelWs K ad H ws vs → ws.length = vs.length
  | _, _, .nil => rfl
  | _, _, .cons _ t => by simp [RelWs.length t]
theorem RelWs.get : ∀ {ws : List W} {vs : List V} {i : Nat} {w : W}, RelWs K ad H ws vs → ws[i]? = some w → ∃ v, vs[i]? = some v ∧ RelW K ad H w v
  | _, _, _, _, .nil, e => by simp at e
  | _, _, 0, _, .cons r _, e => by simp at e; subst e; exact ⟨_, rfl, r⟩
  | _, _, i + 1, w, .cons _ t, e => by
    obtain ⟨v, h1, h2⟩ := RelWs.get (i := i) (w := w) t (by simpa using e)
    exact ⟨v, by simpa using h1, h2⟩
theorem RelWs.getV : ∀ {ws : List W} {vs : List V} {i : Nat} {v : V}, RelWs K ad H ws vs → vs[i]? = some v → ∃ w, ws[i]? = some w ∧ RelW K ad H w v
  | _, _, _, _, .nil, e => by simp at e
  | _, _, 0, _, .cons r _, e => by simp at e; subst e; exact ⟨_, rfl, r⟩
  | _, _, i + 1, v, .cons _ t, e => by
    obtain ⟨w, h1, h2⟩ := RelWs.getV (i := i) (v := v) t (by simpa using e)
    exact ⟨w, by simpa using h1, h2⟩
theorem RelWs.append : ∀ {ws ws' : List W} {vs vs' : List V}, RelWs K ad H ws vs → RelWs K ad H ws' vs' → RelWs K ad H (ws ++ ws') (vs ++ vs')
  | _, _, _, _, .nil, s => s
  | _, _, _, _, .cons r t, s => .cons r (RelWs.append t s)
theorem RelWs.set {w : W} {v : V} (r : RelW K ad H w v) : ∀ {ws : List W} {vs : List V} (i : Nat), RelWs K ad H ws vs → RelWs K ad H (ws.set i w) (vs.set i v)
  | _, _, _, .nil => .nil
  | _, _, 0, .cons _ t => .cons r t
  | _, _, i + 1, .cons q t => .cons q (RelWs.set r i t)
theorem RelWs.take : ∀ {ws : List W} {vs : List V} (n : Nat), RelWs K ad H ws vs → RelWs K ad H (ws.take n) (vs.take n)
  | _, _, 0, _ => .nil
  | _, _, _ + 1, .nil => .nil
  | _, _, n + 1, .cons r t => .cons r (RelWs.take n t)
theorem RelWs.drop : ∀ {ws : List W} {vs : List V} (n : Nat), RelWs K ad H ws vs → RelWs K ad H (ws.drop n) (vs.drop n)
  | _, _, 0, r => r
  | _, _, _ + 1, .nil => .nil
  | _, _, n + 1, .cons _ t => RelWs.drop n t
theorem RelSl.up {sl : Slots} {σ : St} (h : RelSl K ad H sl σ) (l : Up K ad H ad' H') : RelSl K ad' H' sl σ :=
  ⟨h.len, fun i w e => let ⟨v, a, b⟩ := h.get i w e; ⟨v, a, b.up l⟩⟩
theorem RelSl.mono {sl : Slots} {σ : St} (h : RelSl K ad H sl σ) (l : Le K ad H ad' H') : RelSl K ad' H' sl σ := h.up l.up
theorem RelSl.set {sl : Slots} {σ : St} (h : RelSl K ad H sl σ) {w : W} {v : V} (r : RelW K ad H w v) (i : Nat) : RelSl K ad H (sl.set i (some w)) (σ.set i (some v)) := by
  refine ⟨by simp [h.len], fun j u e => ?_⟩
  by_cases hj : i = j
  · subst hj
    by_cases hl : i < sl.length
    · rw [List.getElem?_set_self hl] at e
      cases e
      exact ⟨v, by rw [List.getElem?_set_self (h.len ▸ hl)], r⟩
    · rw [List.getElem?_eq_none (by simpa using hl)] at e
      cases e
  · rw [List.getElem?_set_ne hj] at e ⊢
    exact h.get j u e
theorem RelSl.clear {sl : Slots} {σ : St} (h : RelSl K ad H sl σ) (i : Nat) : RelSl K ad H (sl.set i none) (σ.set i none) := by
  refine ⟨by simp [h.len], fun j u e => ?_⟩
  by_cases hj : i = j
  · subst hj
    by_cases hl : i < sl.length
    · rw [List.getElem?_set_self hl] at e
      cases e
    · rw [List.getElem?_eq_none (by simpa using hl)] at e
      cases e
  · rw [List.getElem?_set_ne hj] at e ⊢
    exact h.get j u e
theorem RelSl.start {N : List Str} {ws : List W} {vs : List V} (r : RelWs K ad H ws vs) : RelSl K ad H (ws.map some ++ List.replicate (N.length - ws.length) none) (L2.start N vs) := by
  unfold L2.start
  refine ⟨by simp [r.length], fun j u e => ?_⟩
  by_cases hl : j < ws.length
  · rw [List.getElem?_append_left (by simpa using hl)] at e
    rw [List.getElem?_append_left (by simpa [← r.length] using hl)]
    rw [List.getElem?_map] at e ⊢
    cases q : ws[j]? with
    | none => rw [q] at e; cases e
    | some w =>
      rw [q] at e
      cases e
      obtain ⟨v, h1, h2⟩ := r.get q
      exact ⟨v, by rw [h1]; rfl, h2⟩
  · rw [List.getElem?_append_right (by simpa using hl)] at e
    rw [List.getElem?_replicate] at e
    split at e <;> cases e
end

/-! ### the state grows, the state is written -/
theorem Slt.same {H H' : Hp} (s : Same H H') {a C dx : Addr} {vs : List (Option V)} (h : SlX.Slt H a C dx vs) : SlX.Slt H' a C dx vs := by
  rcases h with ⟨h1, h2⟩ | ⟨h1, h2⟩
  · exact .inl ⟨s _ _ h1, h2⟩
  · exact .inr ⟨s _ _ h1, s _ _ h2⟩
theorem SqT.same {K : PySem.W.Frag} {H H' : Hp} (s : Same H H') {a : Addr} {vs : List V} (h : SqT K H a vs) : SqT K H' a vs := by
  rcases h with (h | ⟨o, h⟩) | h
  · exact .inl (.inl (s _ _ h))
  · exact .inl (.inr ⟨o, s _ _ h⟩)
  · exact .inr h
section
variable {T : Tab} {K : PySem.W.Frag} {ad ad' : List Addr} {H H' : Hp} {S : Sto} {a p : Addr} {o : Ob}
theorem Le.same (s : Same H H') (h : ad <+: ad') (hn : ∀ b ∈ ad', b ∉ ad → H b = none) : Le K ad H ad' H' :=
  ⟨h, fun _ _ => SqT.same s, fun b hb n o e _ => (by rw [hn b hb n] at e; cases e), fun _ _ h _ _ => s _ _ h, fun _ h => s _ _ h, fun _ _ h => .inl (s _ _ h)⟩
theorem Le.same0 (s : Same H H') : Le K ad H ad H' := Le.same s List.prefix_rfl fun _ h n => absurd h n
theorem Le.one (s : Same H H') (hp : H p = none) : Le K ad H (ad ++ [p]) H' := Le.same s ⟨_, rfl⟩ fun b h n => by
  rcases List.mem_append.mp h with h | h
  · exact absurd h n
  · have e : b = p := by simpa using h
    rw [e]; exact hp
theorem RelOb.same (l : Le K ad H ad' H') (s : Same H H') (r : RelOb T K ad H a o) : RelOb T K ad' H' a o := by
  cases o with
  | lst ws => obtain ⟨vs, h1, h2⟩ := r; exact ⟨vs, s _ _ h1, h2.mono l⟩
  | scr ns =>
    rcases r with h1 | ⟨o, h1⟩
    · exact .inl (s _ _ h1)
    · exact .inr ⟨o, s _ _ h1⟩
  | ins c ws => obtain ⟨dx, vs, h1, h2, h3⟩ := r; exact ⟨dx, vs, s _ _ h1, h2, h3.mono l⟩
  | slo c ws => obtain ⟨dx, vs, h1, h2, h4, h3⟩ := r; exact ⟨dx, vs, Slt.same s h1, h2, h4.imp (s _ _) (s _ _), h3.mono l⟩
  | dct kvs => obtain ⟨vs, h1, h2⟩ := r; exact ⟨vs, s _ _ h1, h2.mono l⟩
theorem RelOb.there (r : RelOb T K ad H a o) : ∃ u, H a = some u ∧ Keen u := by
  cases o with
  | lst ws => obtain ⟨vs, h1, _⟩ := r; exact ⟨_, h1, trivial⟩
  | scr ns =>
    rcases r with h1 | ⟨o, h1⟩
    · exact ⟨_, h1, trivial⟩
    · exact ⟨_, h1, trivial⟩
  | ins c ws => obtain ⟨dx, vs, h1, _⟩ := r; exact ⟨_, h1, trivial⟩
  | slo c ws =>
    obtain ⟨dx, vs, h1 | h1, _⟩ := r
    · exact ⟨_, h1.1, trivial⟩
    · exact ⟨_, h1.1, trivial⟩
  | dct kvs => obtain ⟨vs, h1, _⟩ := r; exact ⟨_, h1, trivial⟩
theorem Rel.there (R : Rel T K ad H S) {i : Nat} (e : ad[i]? = some a) : ∃ o u, S[i]? = some o ∧ H a = some u ∧ Keen u := by
  have hl := (List.getElem?_eq_some_iff.mp e).1
  rw [R.len] at hl
  have q : S[i]? = some S[i] := List.getElem?_eq_getElem hl
  obtain ⟨u, h1, h2⟩ := (R.ob i a _ e q).there
  exact ⟨_, u, q, h1, h2⟩
theorem Rel.new (R : Rel T K ad H S) (hp : H p = none) : p ∉ ad := fun hm => by
  obtain ⟨i, hi⟩ := List.mem_iff_getElem?.mp hm
  obtain ⟨_, u, _, h, _⟩ := R.there hi
  rw [hp] at h; cases h
theorem Rel.alloc (R : Rel T K ad H S) (s : Same H H') (hp : H p = none) (r : RelOb T K (ad ++ [p]) H' p o) : Rel T K (ad ++ [p]) H' (S ++ [o]) := by
  refine ⟨by simp [R.len], ?_, fun i a ob e q => ?_, fun t ht => (R.tabs t ht).go (fun _ e => s _ _ e) fun c n e => ⟨s _ _ e, fun z => by
    rcases List.mem_append.mp z with z | z
    · exact n z
    · have z : c = p := by simpa using z
      rw [z, hp] at e; cases e⟩, fun t ht => s _ _ (R.xds t ht)⟩
  · rw [List.nodup_append]
    exact ⟨R.nd, by simp, fun x hx y hy => by
      have : y = p := by simpa using hy
      subst this
      intro e
      subst e
      exact R.new hp hx⟩
  · by_cases hi : i < ad.length
    · rw [List.getElem?_append_left hi] at e
      rw [List.getElem?_append_left (R.len ▸ hi)] at q
      exact (R.ob i a ob e q).same (Le.one s hp) s
    · rw [List.getElem?_append_right (by omega)] at e
      rw [List.getElem?_append_right (by rw [← R.len]; omega)] at q
      rw [← R.len] at q
      cases hz : i - ad.length with
      | zero =>
        rw [hz] at e q
        simp at e q
        subst e q
        exact r
      | succ n => rw [hz] at e; simp at e
theorem Rel.same (R : Rel T K ad H S) (s : Same H H') : Rel T K ad H' S := ⟨R.len, R.nd, fun i a ob e q => (R.ob i a ob e q).same (Le.same0 s) s, fun t ht => (R.tabs t ht).go (fun _ e => s _ _ e) fun c n e => ⟨s _ _ e, n⟩, fun t ht => s _ _ (R.xds t ht)⟩
/-- all but the place a is kept, and the dicts of instances -/
structure But (a : Addr) (H H' : Hp) : Prop where
  keep : ∀ b o, b ≠ a → Keen o → H b = some o → H' b = some o
  tup : ∀ b vs, H b = some (.tup vs) → H' b = some (.tup vs)
  xd : ∀ {fs : List (Str × V)} b, b ≠ a → H b = some (.xd fs) → H' b = some (.xd fs)
  own : ∀ b x, b ≠ a → H b = some (.own x) → H' b = some (.own x) ∨ H' b = some (.xd [])
  tbl : ∀ b ps, H b = some (.tbl ps) → H' b = some (.tbl ps)
theorem But.tabA {P : Addr} {q : Str} (b : But a H H') (h : TabA ad H P q) (hn : ∀ c, c ∉ ad → H c = some (LamX.CodeO c q) → c ≠ a) : TabA ad H' P q :=
  h.go (fun ps e => b.tbl _ _ e) fun c n e => ⟨b.keep c _ (hn c n e) trivial e, n⟩
theorem But.upd {o u : HO} (h : H a = some o) (k : Keen o) : But a H (upd H a u) :=
  ⟨fun b _ n _ e => by rw [upd_ne n]; exact e, fun b vs e => by
    have n : b ≠ a := fun z => by subst z; rw [h] at e; cases e; exact k
    rw [upd_ne n]; exact e, fun b n e => by rw [upd_ne n]; exact e, fun b x n e => .inl (by rw [upd_ne n]; exact e), fun b ps e => by
    have n : b ≠ a := fun z => by subst z; rw [h] at e; cases e; exact k
    rw [upd_ne n]; exact e⟩
theorem But.le (b : But a H H') (hf : ∀ o u, H a ≠ some (.frz o (.tup u))) (ha : a ∈ ad) (hk : ∃ u, H a = some u ∧ Keen u) : Le K ad H ad H' := ⟨List.prefix_rfl, fun c vs h => by
  rcases h with (h | ⟨o, h⟩) | h
  · exact .inl (.inl (b.tup _ _ h))
  · refine .inl (.inr ⟨o, b.keep _ _ (fun z => ?_) trivial h⟩)
    subst z
    exact hf _ _ h
  · exact .inr h, fun _ h n => absurd h n, fun c o h k n => b.keep c _ (fun z => n (z ▸ ha)) k h, fun c h => b.xd c (fun z => by
    subst z
    obtain ⟨u, e, k⟩ := hk
    rw [e] at h; cases h; exact k) h, fun c x h => b.own c x (fun z => by
    subst z
    obtain ⟨u, e, k⟩ := hk
    rw [e] at h; cases h; exact k) h⟩
theorem Rel.keen (R : Rel T K ad H S) {i : Nat} (e : ad[i]? = some a) : ∃ u, H a = some u ∧ Keen u := by
  obtain ⟨_, u, _, h, k⟩ := R.there e
  exact ⟨u, h, k⟩
theorem RelOb.but {c : Addr} (l : Up K ad H ad' H') (b : But c H H') (n : a ≠ c) (r : RelOb T K ad H a o) (hdx : ∀ dx, H dx = some (.xd []) → dx ≠ c) (hdo : ∀ dx x, H dx = some (.own x) → dx ≠ c) : RelOb T K ad' H' a o := by
  cases o with
  | lst ws => obtain ⟨vs, h1, h2⟩ := r; exact ⟨vs, b.keep _ _ n trivial h1, h2.up l⟩
  | scr ns =>
    rcases r with h1 | ⟨o, h1⟩
    · exact .inl (b.keep _ _ n trivial h1)
    · exact .inr ⟨o, b.keep _ _ n trivial h1⟩
  | ins c ws => obtain ⟨dx, vs, h1, h2, h3⟩ := r; exact ⟨dx, vs, b.keep _ _ n trivial h1, h2, h3.up l⟩
  | slo c ws =>
    obtain ⟨dx, vs, h1, h2, h4', h3⟩ := r
    refine ⟨dx, vs, ?_, h2, ?_, h3.up l⟩
    rotate_left
    · rcases h4' with q | q
      · exact b.own _ _ (hdo _ _ q) q
      · exact .inr (b.xd _ (hdx _ q) q)
    rcases h1 with ⟨h1, h4⟩ | ⟨h1, h4⟩
    · exact .inl ⟨b.keep _ _ n trivial h1, h4⟩
    · exact .inr ⟨b.keep _ _ n trivial h1, b.xd _ (hdx _ h4) h4⟩
  | dct kvs => obtain ⟨vs, h1, h2⟩ := r; exact ⟨vs, b.keep _ _ n trivial h1, h2.up l⟩
/-- the object at i is written -/
theorem Rel.write (R : Rel T K ad H S) {i : Nat} (e : ad[i]? = some a) (b : But a H H') (hf : ∀ o u, H a ≠ some (.frz o (.tup u))) (r : RelOb T K ad H' a o) : Rel T K ad H' (S.set i o) := by
  have l : Le K ad H ad H' := b.le hf (List.mem_of_getElem? e) (R.keen e)
  refine ⟨by simp [R.len], R.nd, fun j c ob q h => ?_, fun p hp => b.tabA (R.tabs p hp) fun c n _ z => n (z ▸ List.mem_of_getElem? e), fun p hp => b.xd _ (fun z => by
    obtain ⟨u, hu, ku⟩ := R.keen e
    have := R.xds p hp
    rw [z, hu] at this; cases this; exact ku) (R.xds p hp)⟩
  by_cases hj : i = j
  · subst hj
    rw [e] at q; cases q
    have hl := (List.getElem?_eq_some_iff.mp e).1
    rw [R.len] at hl
    rw [List.getElem?_set_self hl] at h
    cases h
    exact r
  · rw [List.getElem?_set_ne hj] at h
    have n : c ≠ a := fun z => by
      subst z
      obtain ⟨h1, e1⟩ := List.getElem?_eq_some_iff.mp e
      obtain ⟨h2, e2⟩ := List.getElem?_eq_some_iff.mp q
      exact hj ((List.getElem_inj R.nd).mp (e1.trans e2.symm))
    obtain ⟨_, u, _, hu, ku⟩ := R.there e
    refine (R.ob j c ob q h).but l.up b n (fun dx h2 z => ?_) fun dx x h2 z => ?_
    · subst z
      rw [hu] at h2; cases h2; exact ku
    · subst z
      rw [hu] at h2; cases h2; exact ku
/-- an object that is none of the state's is written -/
theorem Rel.off (R : Rel T K ad H S) {D : Addr} (hD : D ∉ ad) (l : Up K ad H ad H') (b : But D H H') (hx : ∀ fs, H D ≠ some (.xd fs)) (ho : ∀ x, H D ≠ some (.own x)) (he : ∀ p, H D ≠ some (.ext p)) : Rel T K ad H' S := by
  refine ⟨R.len, R.nd, fun j c ob q h => ?_, fun p hp => b.tabA (R.tabs p hp) fun c _ e z => he _ (z ▸ e), fun p hp => b.xd _ (fun z => hx _ (z ▸ R.xds p hp)) (R.xds p hp)⟩
  exact (R.ob j c ob q h).but l b (fun z => hD (z ▸ List.mem_of_getElem? q)) (fun dx h2 z => hx _ (z ▸ h2)) fun dx x h2 z => ho x (z ▸ h2)
theorem But.refl : But a H H := ⟨fun _ _ _ _ h => h, fun _ _ h => h, fun _ _ h => h, fun _ _ _ h => .inl h, fun _ _ h => h⟩
/-- a list that stood beside the state becomes one of its objects -/
theorem Rel.take (R : Rel T K ad H S) {D : Addr} (hD : D ∉ ad) {ws : List W} {vs : List V} (e : H D = some (.lst vs)) (r : RelWs K ad H ws vs) : Rel T K (ad ++ [D]) H (S ++ [.lst ws]) := by
  have u : Up K ad H (ad ++ [D]) H := ⟨⟨_, rfl⟩, fun _ _ h => h, fun c q n e' => ⟨e', fun z => by
    rcases List.mem_append.mp z with z | z
    · exact n z
    · have z : c = D := by simpa using z
      subst z
      rw [e] at e'; cases e'⟩⟩
  refine ⟨by simp [R.len], ?_, fun i a ob e' q => ?_, fun t ht => (R.tabs t ht).go (fun _ e => e) fun c n e' => ⟨e', fun z => by
    rcases List.mem_append.mp z with z | z
    · exact n z
    · have z : c = D := by simpa using z
      subst z
      rw [e] at e'; cases e'⟩, R.xds⟩
  · rw [List.nodup_append]
    exact ⟨R.nd, by simp, fun x hx y hy => by
      have : y = D := by simpa using hy
      subst this
      intro e
      subst e
      exact hD hx⟩
  · by_cases hi : i < ad.length
    · rw [List.getElem?_append_left hi] at e'
      rw [List.getElem?_append_left (R.len ▸ hi)] at q
      exact (R.ob i a ob e' q).but (c := D) u But.refl (fun z => hD (z ▸ List.mem_of_getElem? e')) (fun dx h2 z => by
        subst z
        rw [e] at h2; cases h2) fun dx x h2 z => by
        subst z
        rw [e] at h2; cases h2
    · rw [List.getElem?_append_right (by omega)] at e'
      rw [List.getElem?_append_right (by rw [← R.len]; omega)] at q
      rw [← R.len] at q
      cases hz : i - ad.length with
      | zero =>
        rw [hz] at e' q
        simp at e' q
        subst e' q
        exact ⟨vs, e, r.up u⟩
      | succ n => rw [hz] at e'; simp at e'
theorem Le.take {H0 : Hp} {ad0 : List Addr} {D : Addr} (l : Le K ad0 H0 ad H) (hD : H0 D = none) (hx : ∀ p, H D ≠ some (.ext p)) : Le K ad0 H0 (ad ++ [D]) H := by
  refine ⟨l.pre.trans ⟨_, rfl⟩, l.fwd, fun b hb hn o e k => ?_, l.frm, l.xd, l.own⟩
  · rcases List.mem_append.mp hb with hb | hb
    · exact l.new b hb hn o e k
    · have z : b = D := by simpa using hb
      rw [z, hD] at e
      cases e
/-- .. behind a state in which it did not stand -/
theorem Le.off {H0 : Hp} {ad0 : List Addr} {D : Addr} {vs us : List V} (l : Le K ad0 H0 ad H) (hD : H0 D = none) (e : H D = some (.lst vs)) : Le K ad0 H0 ad (upd H D (.lst us)) := by
  refine ⟨l.pre, fun a xs h => ?_, l.new, fun b o h k n => ?_, fun b h => ?_, fun b x h => ?_⟩
  · have q := l.fwd a xs h
    rcases q with (q | ⟨o, q⟩) | q
    · have n : a ≠ D := fun z => by rw [z, e] at q; cases q
      exact .inl (.inl (by rw [upd_ne n]; exact q))
    · have n : a ≠ D := fun z => by rw [z, e] at q; cases q
      exact .inl (.inr ⟨o, by rw [upd_ne n]; exact q⟩)
    · exact .inr q
  · have n' : b ≠ D := fun z => by rw [z, hD] at h; cases h
    rw [upd_ne n']
    exact l.frm b o h k n
  · have n' : b ≠ D := fun z => by rw [z, hD] at h; cases h
    rw [upd_ne n']
    exact l.xd b h
  · have n' : b ≠ D := fun z => by rw [z, hD] at h; cases h
    rw [upd_ne n']
    exact l.own b x h
end
end RP

/-! RpB: the judgements: an expression, a test, a statement behaves as a function of the state. -/
namespace RP
open PySem L2

section
variable (T : Tab) (K : PySem.W.Frag)
/-- what is wanted of a computation's end -/
def run (ad : List Addr) (H : Hp) (r : Res W) (Q : VK) (E : XK) : Prop := match r with
  | .ok w S => ∀ ad' H' v, Le K ad H ad' H' → Rel T K ad' H' S → RelW K ad' H' w v → Q v H'
  | .ex x S => ∀ ad' H' cls d, Le K ad H ad' H' → Rel T K ad' H' S → RelX T K ad' H' x cls d → E cls d H'
  | .bad => False
def runT (ad : List Addr) (H : Hp) (r : Res Bool) (Q : Bool → Hp → Prop) (E : XK) : Prop := match r with
  | .ok b S => ∀ ad' H', Le K ad H ad' H' → Rel T K ad' H' S → Q b H'
  | .ex x S => ∀ ad' H' cls d, Le K ad H ad' H' → Rel T K ad' H' S → RelX T K ad' H' x cls d → E cls d H'
  | .bad => False
def runA (ad : List Addr) (H : Hp) (r : Res (List W)) (Q : List V → Hp → Prop) (E : XK) : Prop := match r with
  | .ok ws S => ∀ ad' H' vs, Le K ad H ad' H' → Rel T K ad' H' S → RelWs K ad' H' ws vs → Q vs H'
  | .ex x S => ∀ ad' H' cls d, Le K ad H ad' H' → Rel T K ad' H' S → RelX T K ad' H' x cls d → E cls d H'
  | .bad => False
def runS (ad : List Addr) (H : Hp) (r : Res Fl) (D : Ends) (Wx : WX) : Prop := match r with
  | .ok (.nx sl) S => ∀ ad' H' σ, Le K ad H ad' H' → Rel T K ad' H' S → RelSl K ad' H' sl σ → D.nx σ H'
  | .ok (.rt w) S => ∀ ad' H' v, Le K ad H ad' H' → Rel T K ad' H' S → RelW K ad' H' w v → D.rt v H'
  | .ok (.bk sl) S => ∀ ad' H' σ, Le K ad H ad' H' → Rel T K ad' H' S → RelSl K ad' H' sl σ → D.bk σ H'
  | .ok (.ct sl) S => ∀ ad' H' σ, Le K ad H ad' H' → Rel T K ad' H' S → RelSl K ad' H' sl σ → D.ct σ H'
  | .ok (.xx x sl) S => ∀ ad' H' cls d σ, Le K ad H ad' H' → Rel T K ad' H' S → RelX T K ad' H' x cls d → RelSl K ad' H' sl σ → Wx cls d σ H'
  | _ => False
/-- the readings -/
def rd (f : Slots → M W) (Wx : WX) : TE := fun σ H Q => ∃ ad S sl, Rel T K ad H S ∧ RelSl K ad H sl σ ∧ run T K ad H (f sl S) Q fun c d H' => Wx c d σ H'
def rdT (f : Slots → M Bool) (Wx : WX) : TT := fun σ H Q => ∃ ad S sl, Rel T K ad H S ∧ RelSl K ad H sl σ ∧ runT T K ad H (f sl S) Q fun c d H' => Wx c d σ H'
def rdA (f : Slots → M (List W)) (Wx : WX) : TA := fun σ H Q => ∃ ad S sl, Rel T K ad H S ∧ RelSl K ad H sl σ ∧ runA T K ad H (f sl S) Q fun c d H' => Wx c d σ H'
def rdS (f : Slots → M Fl) (Wx : WX) : TS := fun D σ H => ∃ ad S sl, Rel T K ad H S ∧ RelSl K ad H sl σ ∧ runS T K ad H (f sl S) D Wx
/-- an operation on one, two values, a call on values -/
def r1 (g : W → M W) (E : XK) : V → Hp → VK → Prop := fun x H Q => ∃ ad S w, Rel T K ad H S ∧ RelW K ad H w x ∧ run T K ad H (g w S) Q E
def r2 (g : W → W → M W) (E : XK) : R2 := fun x y H Q => ∃ ad S w u, Rel T K ad H S ∧ RelW K ad H w x ∧ RelW K ad H u y ∧ run T K ad H (g w u S) Q E
def rN (g : List W → M W) (E : XK) : List V → Hp → VK → Prop := fun xs H Q => ∃ ad S ws, Rel T K ad H S ∧ RelWs K ad H ws xs ∧ run T K ad H (g ws S) Q E
end

section
variable {T : Tab} {K : PySem.W.Frag} {ad ad' : List Addr} {H H' : Hp} {α : Type}
theorem run_mono {r : Res W} {Q : VK} {E : XK} (l : Le K ad H ad' H') (h : run T K ad H r Q E) : run T K ad' H' r Q E := by
  cases r with
  | ok w S => exact fun a b c l' => h a b c (l.trans l')
  | ex x S => exact fun a b c d l' => h a b c d (l.trans l')
  | bad => exact h
theorem run_imp {r : Res W} {Q Q' : VK} {E : XK} (h : run T K ad H r Q E) (q : ∀ v H, Q v H → Q' v H) : run T K ad H r Q' E := by
  cases r with
  | ok w S => exact fun a b c l' R r => q _ _ (h a b c l' R r)
  | ex x S => exact h
  | bad => exact h
theorem runT_mono {r : Res Bool} {Q : Bool → Hp → Prop} {E : XK} (l : Le K ad H ad' H') (h : runT T K ad H r Q E) : runT T K ad' H' r Q E := by
  cases r with
  | ok w S => exact fun a b l' => h a b (l.trans l')
  | ex x S => exact fun a b c d l' => h a b c d (l.trans l')
  | bad => exact h
theorem runA_mono {r : Res (List W)} {Q : List V → Hp → Prop} {E : XK} (l : Le K ad H ad' H') (h : runA T K ad H r Q E) : runA T K ad' H' r Q E := by
  cases r with
  | ok w S => exact fun a b c l' => h a b c (l.trans l')
  | ex x S => exact fun a b c d l' => h a b c d (l.trans l')
  | bad => exact h
theorem runS_mono {r : Res Fl} {D : Ends} {Wx : WX} (l : Le K ad H ad' H') (h : runS T K ad H r D Wx) : runS T K ad' H' r D Wx := by
  cases r with
  | ok f S =>
    cases f with
    | nx sl => exact fun a b c l' => h a b c (l.trans l')
    | rt sl => exact fun a b c l' => h a b c (l.trans l')
    | bk sl => exact fun a b c l' => h a b c (l.trans l')
    | ct sl => exact fun a b c l' => h a b c (l.trans l')
    | xx x sl => exact fun a b c d e l' => h a b c d e (l.trans l')
  | ex x S => exact h
  | bad => exact h
/-- an expression, then what goes on with its value: for every kind of end -/
theorem run_bd {m : M W} {k : W → M W} {S : Sto} {Q : VK} {E : XK} (h : run T K ad H (bd m k S) Q E) :
    run T K ad H (m S) (fun v H1 => ∃ ad1 S1 w, Le K ad H ad1 H1 ∧ Rel T K ad1 H1 S1 ∧ RelW K ad1 H1 w v ∧ run T K ad1 H1 (k w S1) Q E) E := by
  unfold bd at h
  cases q : m S with
  | ok w S1 => rw [q] at h; exact fun a b c l R r => ⟨a, S1, w, l, R, r, run_mono l h⟩
  | ex x S => rw [q] at h; exact h
  | bad => rw [q] at h; exact h
theorem run_bdT {m : M W} {k : W → M Bool} {S : Sto} {Q : Bool → Hp → Prop} {E : XK} (h : runT T K ad H (bd m k S) Q E) :
    run T K ad H (m S) (fun v H1 => ∃ ad1 S1 w, Le K ad H ad1 H1 ∧ Rel T K ad1 H1 S1 ∧ RelW K ad1 H1 w v ∧ runT T K ad1 H1 (k w S1) Q E) E := by
  unfold bd at h
  cases q : m S with
  | ok w S1 => rw [q] at h; exact fun a b c l R r => ⟨a, S1, w, l, R, r, runT_mono l h⟩
  | ex x S => rw [q] at h; exact h
  | bad => rw [q] at h; exact h
theorem run_bdA {m : M W} {k : W → M (List W)} {S : Sto} {Q : List V → Hp → Prop} {E : XK} (h : runA T K ad H (bd m k S) Q E) :
    run T K ad H (m S) (fun v H1 => ∃ ad1 S1 w, Le K ad H ad1 H1 ∧ Rel T K ad1 H1 S1 ∧ RelW K ad1 H1 w v ∧ runA T K ad1 H1 (k w S1) Q E) E := by
  unfold bd at h
  cases q : m S with
  | ok w S1 => rw [q] at h; exact fun a b c l R r => ⟨a, S1, w, l, R, r, runA_mono l h⟩
  | ex x S => rw [q] at h; exact h
  | bad => rw [q] at h; exact h
theorem runT_bd {m : M Bool} {k : Bool → M W} {S : Sto} {Q : VK} {E : XK} (h : run T K ad H (bd m k S) Q E) :
    runT T K ad H (m S) (fun b H1 => ∃ ad1 S1, Le K ad H ad1 H1 ∧ Rel T K ad1 H1 S1 ∧ run T K ad1 H1 (k b S1) Q E) E := by
  unfold bd at h
  cases q : m S with
  | ok w S1 => rw [q] at h; exact fun a b l R => ⟨a, S1, l, R, run_mono l h⟩
  | ex x S => rw [q] at h; exact h
  | bad => rw [q] at h; exact h
theorem runT_bdT {m : M Bool} {k : Bool → M Bool} {S : Sto} {Q : Bool → Hp → Prop} {E : XK} (h : runT T K ad H (bd m k S) Q E) :
    runT T K ad H (m S) (fun b H1 => ∃ ad1 S1, Le K ad H ad1 H1 ∧ Rel T K ad1 H1 S1 ∧ runT T K ad1 H1 (k b S1) Q E) E := by
  unfold bd at h
  cases q : m S with
  | ok w S1 => rw [q] at h; exact fun a b l R => ⟨a, S1, l, R, runT_mono l h⟩
  | ex x S => rw [q] at h; exact h
  | bad => rw [q] at h; exact h
theorem runA_bd {m : M (List W)} {k : List W → M W} {S : Sto} {Q : VK} {E : XK} (h : run T K ad H (bd m k S) Q E) :
    runA T K ad H (m S) (fun vs H1 => ∃ ad1 S1 ws, Le K ad H ad1 H1 ∧ Rel T K ad1 H1 S1 ∧ RelWs K ad1 H1 ws vs ∧ run T K ad1 H1 (k ws S1) Q E) E := by
  unfold bd at h
  cases q : m S with
  | ok w S1 => rw [q] at h; exact fun a b c l R r => ⟨a, S1, w, l, R, r, run_mono l h⟩
  | ex x S => rw [q] at h; exact h
  | bad => rw [q] at h; exact h
theorem runA_bdA {m : M (List W)} {k : List W → M (List W)} {S : Sto} {Q : List V → Hp → Prop} {E : XK} (h : runA T K ad H (bd m k S) Q E) :
    runA T K ad H (m S) (fun vs H1 => ∃ ad1 S1 ws, Le K ad H ad1 H1 ∧ Rel T K ad1 H1 S1 ∧ RelWs K ad1 H1 ws vs ∧ runA T K ad1 H1 (k ws S1) Q E) E := by
  unfold bd at h
  cases q : m S with
  | ok w S1 => rw [q] at h; exact fun a b c l R r => ⟨a, S1, w, l, R, r, runA_mono l h⟩
  | ex x S => rw [q] at h; exact h
  | bad => rw [q] at h; exact h
theorem runT_imp {r : Res Bool} {Q Q' : Bool → Hp → Prop} {E : XK} (h : runT T K ad H r Q E) (q : ∀ v H, Q v H → Q' v H) : runT T K ad H r Q' E := by
  cases r with
  | ok w S => exact fun a b l' R => q _ _ (h a b l' R)
  | ex x S => exact h
  | bad => exact h
theorem runA_imp {r : Res (List W)} {Q Q' : List V → Hp → Prop} {E : XK} (h : runA T K ad H r Q E) (q : ∀ v H, Q v H → Q' v H) : runA T K ad H r Q' E := by
  cases r with
  | ok w S => exact fun a b c l' R r => q _ _ (h a b c l' R r)
  | ex x S => exact h
  | bad => exact h
/-- a value is there -/
theorem run_ok {w : W} {v : V} {S : Sto} {Q : VK} {E : XK} (R : Rel T K ad H S) (r : RelW K ad H w v) (h : run T K ad H (.ok w S) Q E) : Q v H := h ad H v Le.refl R r
end

/-! ### the contexts -/
structure Mo where
  P : Program
  w : World
  K : PySem.W.Frag
  mg : Str → Option Value
  base : Heap
def moOf (X : Cx) : Mo := ⟨X.prog, X.w, X.K, X.mg, X.base⟩
/-- what a body knows of its context: names of its own that it stores, a fact -/
structure Ow where
  fns : List Str
  xi : Cx → Prop
abbrev ow0 (l : List Str) : Ow := ⟨l, fun _ => True⟩
/-- a body of the text: at level k (room for calls k deep); c: nothing is handled; t: a def's own frame -/
structure Good (m : Mo) (k : Nat) (c t : Bool) (sc : Scope) (N : List Str) (ow : Ow) (X : Cx) : Prop where
  mo : moOf X = m
  hsc : X.env.scope = sc
  hN : X.N = N
  nd : N.Nodup
  calm : c = true → X.calm = true
  room : c = true → Room k X.A
  un : X.A.units + 64 < cLine
  own : PassesOwn (model X.prog X.w) X.A X.env X.xe
  fn : ∀ x ∈ ow.fns, X.fn x = true
  xi : ow.xi X
  top : t = true → X.stack = X.env :: X.outer ∧ X.env.frame = some X.env.locals
section
variable (m : Mo) (T : Tab) (k : Nat) (c t : Bool) (sc : Scope) (N : List Str) (ow : Ow)
def SE (e : Expr) (f : Slots → M W) : Prop := ∀ X, Good m k c t sc N ow X → ∀ Wx, Takes X Wx → PE X e (rd T m.K f Wx)
def ST (e : Expr) (f : Slots → M Bool) : Prop := ∀ X, Good m k c t sc N ow X → ∀ Wx, Takes X Wx → PT X e (rdT T m.K f Wx)
def SW (e : Expr) (f : Slots → M Bool) : Prop := ∀ X, Good m k c t sc N ow X → ∀ Wx, Takes X Wx → PW X e (rdT T m.K f Wx)
def SA (es : List Expr) (f : Slots → M (List W)) : Prop := ∀ X, Good m k c t sc N ow X → ∀ Wx, Takes X Wx → PA X es (rdA T m.K f Wx)
def SS (st : Stmt) (f : Slots → M Fl) : Prop := ∀ X, Good m k c t sc N ow X → ∀ Wx, Takes X Wx → PS X st (rdS T m.K f Wx)
def SSs (st : List Stmt) (f : Slots → M Fl) : Prop := ∀ X, Good m k c t sc N ow X → ∀ Wx, Takes X Wx → PSs X st (rdS T m.K f Wx)
/-- operations by values -/
def S1 (op : UnaryOp) (g : W → M W) : Prop := ∀ X, Good m k c t sc N ow X → ∀ E, UnR X (unaryOp op) (r1 T m.K g E)
def S2 (op : Operator) (g : W → W → M W) : Prop := ∀ X, Good m k c t sc N ow X → ∀ E, OpR X (binaryOp op) (r2 T m.K g E)
def SI (op : Operator) (g : W → W → M W) : Prop := ∀ X, Good m k c t sc N ow X → ∀ E, OpR X (inplaceOp op) (r2 T m.K g E)
def SC (op : CmpOp) (g : W → W → M W) : Prop := ∀ X, Good m k c t sc N ow X → ∀ Wx, Takes X Wx → ∀ σ, ∀ (pins : List (Addr × Obj)) (s : Shared) (H : Hp) (x y : V) (v u : Value) (Q : VK), Inv X pins σ H s → RelV x v → RelV y u → r2 T m.K g (fun c d H => Wx c d σ H) x y H Q →
    wpAny (model X.prog X.w) X.A (compareOp op v u) (EP X pins σ Q) X.xe s
/-- a call of a known value -/
def SN (f : Value) (g : List W → M W) : Prop := ∀ X, Good m k c t sc N ow X → ∀ E, CallR X f (rN T m.K g E)
end

end RP
namespace L2
open PySem
theorem PE.imp {X : Cx} {e : Expr} {t t' : TE} (h : PE X e t) (i : ∀ σ H Q, t' σ H Q → t σ H Q) : PE X e t' := ⟨fun pins s σ H Q I q => h.run pins s σ H Q I (i σ H Q q)⟩
theorem PT.imp {X : Cx} {e : Expr} {t t' : TT} (h : PT X e t) (i : ∀ σ H Q, t' σ H Q → t σ H Q) : PT X e t' := ⟨fun pins s σ H Q I q => h.run pins s σ H Q I (i σ H Q q)⟩
theorem PW.imp {X : Cx} {e : Expr} {t t' : TT} (h : PW X e t) (i : ∀ σ H Q, t' σ H Q → t σ H Q) : PW X e t' := ⟨fun wh pins s σ H Q I q => h.run wh pins s σ H Q I (i σ H Q q)⟩
theorem PA.imp {X : Cx} {e : List Expr} {t t' : TA} (h : PA X e t) (i : ∀ σ H Q, t' σ H Q → t σ H Q) : PA X e t' := ⟨fun pos pins s σ H Q I q => h.run pos pins s σ H Q I (i σ H Q q)⟩
theorem PS.imp {X : Cx} {e : Stmt} {t t' : TS} (h : PS X e t) (i : ∀ D σ H, t' D σ H → t D σ H) : PS X e t' := ⟨fun pins s σ H D I q => h.run pins s σ H D I (i D σ H q)⟩
theorem PSs.imp {X : Cx} {e : List Stmt} {t t' : TS} (h : PSs X e t) (i : ∀ D σ H, t' D σ H → t D σ H) : PSs X e t' := ⟨fun pins s σ H D I q => h.run pins s σ H D I (i D σ H q)⟩

end L2
namespace RP
open PySem L2
section
variable {m : Mo} {T : Tab} {k : Nat} {c t : Bool} {sc : Scope} {N : List Str} {ow : Ow} {a b d : Expr} {fa fb fd : Slots → M W} {pos : Pos}
/-! ### names, constants -/
def getSl (i : Nat) (sl : Slots) : M W := fun S => match sl[i]? with
  | some (some w) => .ok w S
  | _ => .bad
theorem e_var (i : Nat) {x : Str} (hN : N[i]? = some x := by rfl) (hv : Vis sc x := by first | exact Or.inl rfl | exact Or.inr (Or.inl rfl) | exact Or.inr (Or.inr rfl)) (hd : (x == ("__debug__" : Str)) = false := by decide)
    (hcd : (x == ("__classdict__" : Str)) = false := by decide) : SE m T k c t sc N ow (.Name x pos) (getSl i) := fun X g Wx tk => by
  refine (pe_var (i := i) (by rw [g.hN]; exact hN) (by rw [g.hsc]; exact hv) hd hcd).imp fun σ H Q h => ?_
  obtain ⟨ad, S, sl, R, L, h⟩ := h
  unfold getSl at h
  split at h
  · rename_i w e
    obtain ⟨v, h1, h2⟩ := L.get i w e
    exact ⟨v, h1, run_ok R h2 h⟩
  · exact h.elim
theorem e_const {v : V} {w : W} {e : Expr} (h : ∀ X, Good m k c t sc N ow X → PE X e (tC v)) (r : ∀ ad H, RelW m.K ad H w v) : SE m T k c t sc N ow e (fun _ => ret w) := fun X g Wx tk => by
  refine (h X g).imp fun σ H Q h => ?_
  obtain ⟨ad, S, sl, R, L, h⟩ := h
  exact run_ok R (r ad H) h
theorem e_int {i : Int} {j : Nat} : SE m T k c t sc N ow (.Constant (.int i) j pos) (fun _ => ret (.int i)) := e_const (fun _ _ => pe_int) fun _ _ => .int i
theorem e_bl {i : Bool} {j : Nat} : SE m T k c t sc N ow (.Constant (.bool i) j pos) (fun _ => ret (.bl i)) := e_const (fun _ _ => pe_bl) fun _ _ => .bl i
theorem e_non {j : Nat} : SE m T k c t sc N ow (.Constant .none j pos) (fun _ => ret .non) := e_const (fun _ _ => pe_non) fun _ _ => .non
theorem e_str {x : Str} {j : Nat} : SE m T k c t sc N ow (.Constant (.str x) j pos) (fun _ => ret (.str x)) := e_const (fun _ _ => pe_str) fun _ _ => .str x
theorem gl_of {X : Cx} (g : Good m k c t sc N ow X) {x : Str} (h : sc.names.lookup x = some .globalImplicit) : Gl X x := by
  show X.env.scope.names.lookup x = _
  rw [g.hsc]
  exact h
theorem e_glob {x : Str} {v : V} {w : W} {u : Value} (hm : m.mg x = some u) (r : RelV v u) (rw' : ∀ ad H, RelW m.K ad H w v) (hg : sc.names.lookup x = some .globalImplicit := by rfl) (hd : (x == ("__debug__" : Str)) = false := by decide) :
    SE m T k c t sc N ow (.Name x pos) (fun _ => ret w) :=
  e_const (v := v) (fun X g => by
    have q := gl_of g hg
    obtain ⟨rfl, _⟩ := g
    exact pe_glob q hm r hd) rw'
/-! ### operators -/
theorem e_bin {op : Operator} {gg : W → W → M W} (ho : S2 m T k c t sc N ow op gg) (ha : SE m T k c t sc N ow a fa) (hb : SE m T k c t sc N ow b fb) :
    SE m T k c t sc N ow (.BinOp a op b pos) (fun sl => bd (fa sl) fun x => bd (fb sl) fun y => gg x y) := fun X g Wx tk => by
  refine ⟨fun pins s σ H Q I h => ?_⟩
  refine (pe_op (ho X g fun c d H' => Wx c d σ H') (ha X g Wx tk) (hb X g Wx tk)).run pins s σ H Q I ?_
  obtain ⟨ad, S, sl, R, L, h⟩ := h
  refine ⟨ad, S, sl, R, L, run_imp (run_bd h) ?_⟩
  rintro v H1 ⟨ad1, S1, w1, l1, R1, r1, h1⟩
  refine ⟨ad1, S1, sl, R1, L.mono l1, run_imp (run_bd h1) ?_⟩
  rintro u H2 ⟨ad2, S2, w2, l2, R2, r2, h2⟩
  exact ⟨ad2, S2, w1, w2, R2, r1.mono l2, r2, h2⟩
theorem e_un {op : UnaryOp} {gg : W → M W} (ho : S1 m T k c t sc N ow op gg) (ha : SE m T k c t sc N ow a fa) :
    SE m T k c t sc N ow (.UnaryOp op a pos) (fun sl => bd (fa sl) fun x => gg x) := fun X g Wx tk => by
  refine ⟨fun pins s σ H Q I h => ?_⟩
  refine (pe_un (ho X g fun c d H' => Wx c d σ H') (ha X g Wx tk)).run pins s σ H Q I ?_
  obtain ⟨ad, S, sl, R, L, h⟩ := h
  refine ⟨ad, S, sl, R, L, run_imp (run_bd h) ?_⟩
  rintro v H1 ⟨ad1, S1, w1, l1, R1, r1, h1⟩
  exact ⟨ad1, S1, w1, R1, r1, h1⟩
end
end RP

/-! RpC: operators and comparisons by values. -/
namespace RP
open PySem L2

section
variable {T : Tab} {K : PySem.W.Frag} {ad : List Addr} {H : Hp} {S : Sto} {Q : VK} {E : XK}
theorem same_new {p : Addr} {o : HO} (hp : H p = none) : Same H (upd H p o) := fun b u e => by
  rw [upd_ne (ne_of_none e hp)]
  exact e
/-- a new object -/
theorem run_alloc {p : Addr} {ho : HO} {o : Ob} (R : Rel T K ad H S) (hp : H p = none) (ro : RelOb T K (ad ++ [p]) (upd H p ho) p o) (h : run T K ad H (.ok (.ref S.length) (S ++ [o])) Q E) : Q (.ref p) (upd H p ho) :=
  h _ _ _ (Le.one (same_new hp) hp) (R.alloc (same_new hp) hp ro) (.ref (by rw [← R.len]; simp))
theorem run_newlst {p : Addr} {ws : List W} {vs : List V} (R : Rel T K ad H S) (hp : H p = none) (r : RelWs K ad H ws vs) (h : run T K ad H (.ok (.ref S.length) (S ++ [.lst ws])) Q E) : Q (.ref p) (upd H p (.lst vs)) :=
  run_alloc (o := .lst ws) R hp ⟨vs, upd_same, r.mono (Le.one (same_new hp) hp)⟩ h
/-- a new tuple -/
theorem run_newtup {p : Addr} {ws : List W} {vs : List V} (R : Rel T K ad H S) (hp : H p = none) (r : RelWs K ad H ws vs) (h : run T K ad H (.ok (.tup ws) S) Q E) : Q (.ref p) (upd H p (.tup vs)) :=
  have l : Le K ad H ad (upd H p (.tup vs)) := Le.same0 (same_new hp)
  h _ _ _ l (R.same (same_new hp)) (.tup (.inl (.inl upd_same)) (r.mono l))
theorem Rel.lst (R : Rel T K ad H S) {i : Nat} {a : Addr} {ws : List W} (e : ad[i]? = some a) (q : S[i]? = some (.lst ws)) : ∃ vs, H a = some (.lst vs) ∧ RelWs K ad H ws vs := R.ob i a _ e q
/-- a list that is read: a list of the state, or the script -/
def seqOf (S : Sto) (i : Nat) : Option (List W) := match S[i]? with
  | some (.lst ws) => some ws
  | some (.scr ns) => some (ns.map W.int)
  | _ => none
theorem relWs_ints (ns : List Int) : RelWs K ad H (ns.map W.int) (ns.map V.int) := by
  induction ns with
  | nil => exact .nil
  | cons n r ih => exact .cons (.int n) ih
theorem Rel.seq (R : Rel T K ad H S) {i : Nat} {a : Addr} {ws : List W} (e : ad[i]? = some a) (q : seqOf S i = some ws) : ∃ vs, SqL K H a vs ∧ RelWs K ad H ws vs := by
  unfold seqOf at q
  split at q
  · rename_i h
    cases q
    obtain ⟨vs, h1, h2⟩ := R.lst e h
    exact ⟨vs, SqL.of h1, h2⟩
  · rename_i h
    cases q
    rcases R.ob i a _ e h with h1 | ⟨o, h1⟩
    · exact ⟨_, SqL.of h1, relWs_ints _⟩
    · exact ⟨_, .inl (.inr ⟨o, h1⟩), relWs_ints _⟩
  · cases q
end

/-! ### arithmetic -/
def small64 (i : Int) : Bool := decide (-(2 ^ 64) < i ∧ i < 2 ^ 64)
def pyAdd (x y : W) : M W := fun S => match x, y with
  | .int i, .int j => .ok (.int (i + j)) S
  | .str a, .str b => if a.length + b.length ≤ sizeLine then .ok (.str (a ++ b)) S else .bad
  | .ref i, .ref j => match S[i]?, S[j]? with
    | some (.lst xs), some (.lst ys) => if xs.length + ys.length ≤ sizeLine then .ok (.ref S.length) (S ++ [.lst (xs ++ ys)]) else .bad
    | _, _ => .bad
  | .tup xs, .tup ys => if xs.length + ys.length ≤ sizeLine then .ok (.tup (xs ++ ys)) S else .bad
  | _, _ => .bad
def pySub (x y : W) : M W := fun S => match x, y with
  | .int i, .int j => .ok (.int (i - j)) S
  | _, _ => .bad
def pyMul (x y : W) : M W := fun S => match x, y with
  | .int i, .int j => if small64 i || small64 j then .ok (.int (i * j)) S else .bad
  | .ref i, .int n => match S[i]? with
    | some (.lst xs) => if -(2 ^ 63) ≤ n ∧ n < 2 ^ 63 ∧ xs.length * n.toNat ≤ sizeLine then .ok (.ref S.length) (S ++ [.lst (List.replicate n.toNat xs).flatten]) else .bad
    | _ => .bad
  | _, _ => .bad
def pyFdiv (x y : W) : M W := fun S => match x, y with
  | .int i, .int j => if 0 < j ∧ j < 1152921504606846976 then .ok (.int (i / j)) S else .bad
  | _, _ => .bad
def pyMod (x y : W) : M W := fun S => match x, y with
  | .int i, .int j => if 0 < j then .ok (.int (i % j)) S else .bad
  | _, _ => .bad
def pyPow (x y : W) : M W := fun S => match x, y with
  | .int i, .int j => if 0 ≤ j ∧ j ≤ 1000000 ∧ i.natAbs < 2 ^ 64 then .ok (.int (i ^ j.toNat)) S else .bad
  | _, _ => .bad
def pyNeg (x : W) : M W := fun S => match x with
  | .int i => .ok (.int (-i)) S
  | _ => .bad

theorem opFdivW {X : Cx} : OpR X (binaryOp .FloorDiv) (rI (fun _ j => 0 < j ∧ j < 1152921504606846976) fun i j => .int (i / j)) := opI fun i j _ _ _ _ _ hc q => by
  have h1 : (0 : Int) < j := hc.1
  have h2 : j < 1152921504606846976 := hc.2
  refine PyProof.Rows.floordiv_int (by omega) (by rw [Int.fdiv_eq_ediv_of_nonneg i (by omega)]; exact q) (.inl (PyProof.noPylong_of_log2 ?_))
  have h3 : j.natAbs < 2 ^ 60 := by
    rw [show (2 : Nat) ^ 60 = 1152921504606846976 by decide]
    omega
  have := (Nat.log2_lt (n := j.natAbs) (k := 60) (by omega)).mpr h3
  omega
section
variable {m : Mo} {T : Tab} {k : Nat} {c t : Bool} {sc : Scope} {N : List Str} {ow : Ow}
theorem relWs_rep {K : PySem.W.Frag} {ad : List Addr} {H : Hp} {ws : List W} {vs : List V} (r : RelWs K ad H ws vs) : ∀ n : Nat, RelWs K ad H (List.replicate n ws).flatten (List.replicate n vs).flatten
  | 0 => .nil
  | n + 1 => by
    rw [List.replicate_succ, List.replicate_succ, List.flatten_cons, List.flatten_cons]
    exact r.append (relWs_rep r n)
theorem o_add : S2 m T k c t sc N ow .Add pyAdd := by
  intro X g E pins s σ H x y v u Q I rx ry ⟨ad, S, w, z, R, rw, rz, h⟩
  obtain ⟨rfl, _⟩ := g
  unfold pyAdd at h
  split at h
  · cases rw; cases rz
    exact op_add pins s σ H _ _ v u Q I rx ry ⟨_, _, rfl, rfl, run_ok R (.int _) h⟩
  · split at h
    · cases rw; cases rz
      exact op_add_str pins s σ H _ _ v u Q I rx ry ⟨_, _, rfl, rfl, by assumption, run_ok R (.str _) h⟩
    · exact h.elim
  · rename_i i j
    cases rw with
    | ref e1 =>
    cases rz with
    | ref e2 =>
    split at h
    · rename_i xs ys h1 h2
      split at h
      · rename_i hl
        obtain ⟨vs, q1, r1⟩ := R.lst e1 h1
        obtain ⟨us, q2, r2⟩ := R.lst e2 h2
        exact op_cat pins s σ H _ _ v u Q I rx ry ⟨_, _, vs, us, rfl, rfl, q1, q2, by rw [← r1.length, ← r2.length]; exact hl, fun p hp => run_newlst R hp (r1.append r2) h⟩
      · exact h.elim
    · exact h.elim
  · rename_i xs ys
    cases rw with
    | tup s1 r1 =>
    cases rz with
    | tup s2 r2 =>
    split at h
    · rename_i hl
      refine op_catA pins s σ H _ _ v u Q I rx ry ⟨_, _, _, _, rfl, rfl, s1, s2, by rw [← r1.length, ← r2.length]; exact hl, fun z => ?_, fun _ z => ?_, fun _ _ p hp => run_newtup R hp (r1.append r2) h⟩
      · have z1 : xs = [] := List.eq_nil_of_length_eq_zero (by rw [r1.length, z]; rfl)
        subst z1
        exact run_ok R (.tup s2 r2) h
      · have z2 : ys = [] := List.eq_nil_of_length_eq_zero (by rw [r2.length, z]; rfl)
        subst z2
        rw [List.append_nil] at h
        exact run_ok R (.tup s1 r1) h
    · exact h.elim
  · exact h.elim
theorem o_sub : S2 m T k c t sc N ow .Sub pySub := by
  intro X g E pins s σ H x y v u Q I rx ry ⟨ad, S, w, z, R, rw, rz, h⟩
  obtain ⟨rfl, _⟩ := g
  unfold pySub at h
  split at h
  · cases rw; cases rz
    exact op_sub pins s σ H _ _ v u Q I rx ry ⟨_, _, rfl, rfl, run_ok R (.int _) h⟩
  · exact h.elim
theorem o_mul : S2 m T k c t sc N ow .Mult pyMul := by
  intro X g E pins s σ H x y v u Q I rx ry ⟨ad, S, w, z, R, rw, rz, h⟩
  obtain ⟨rfl, _⟩ := g
  unfold pyMul at h
  split at h
  · split at h
    · rename_i hs
      cases rw; cases rz
      refine op_mul pins s σ H _ _ v u Q I rx ry ⟨_, _, rfl, rfl, ?_, run_ok R (.int _) h⟩
      simp only [Bool.or_eq_true, small64, decide_eq_true_eq] at hs
      exact hs
    · exact h.elim
  · rename_i i n
    cases rw with
    | ref e1 =>
    cases rz
    split at h
    · rename_i xs h1
      split at h
      · rename_i hl
        obtain ⟨vs, q1, r1⟩ := R.lst e1 h1
        exact op_rep pins s σ H _ _ v u Q I rx ry ⟨_, _, vs, rfl, rfl, q1, hl.1, hl.2.1, by rw [← r1.length]; exact hl.2.2, fun p hp => run_newlst R hp (relWs_rep r1 _) h⟩
      · exact h.elim
    · exact h.elim
  · exact h.elim
theorem o_fdiv : S2 m T k c t sc N ow .FloorDiv pyFdiv := by
  intro X g E pins s σ H x y v u Q I rx ry ⟨ad, S, w, z, R, rw, rz, h⟩
  obtain ⟨rfl, _⟩ := g
  unfold pyFdiv at h
  split at h
  · split at h
    · rename_i hs
      cases rw; cases rz
      exact opFdivW pins s σ H _ _ v u Q I rx ry ⟨_, _, rfl, rfl, hs, run_ok R (.int _) h⟩
    · exact h.elim
  · exact h.elim
theorem o_mod : S2 m T k c t sc N ow .Mod pyMod := by
  intro X g E pins s σ H x y v u Q I rx ry ⟨ad, S, w, z, R, rw, rz, h⟩
  obtain ⟨rfl, _⟩ := g
  unfold pyMod at h
  split at h
  · split at h
    · rename_i hs
      cases rw; cases rz
      exact op_mod pins s σ H _ _ v u Q I rx ry ⟨_, _, rfl, rfl, hs, run_ok R (.int _) h⟩
    · exact h.elim
  · exact h.elim
theorem o_pow : S2 m T k c t sc N ow .Pow pyPow := by
  intro X g E pins s σ H x y v u Q I rx ry ⟨ad, S, w, z, R, rw, rz, h⟩
  obtain ⟨rfl, _⟩ := g
  unfold pyPow at h
  split at h
  · split at h
    · rename_i hs
      cases rw; cases rz
      exact op_pow pins s σ H _ _ v u Q I rx ry ⟨_, _, rfl, rfl, hs, run_ok R (.int _) h⟩
    · exact h.elim
  · exact h.elim
theorem o_neg : S1 m T k c t sc N ow .USub pyNeg := by
  intro X g E pins s σ H x v Q I rx ⟨ad, S, w, R, rw, h⟩
  obtain ⟨rfl, _⟩ := g
  unfold pyNeg at h
  split at h
  · cases rw
    exact un_neg pins s σ H _ v Q I rx ⟨_, rfl, run_ok R (.int _) h⟩
  · exact h.elim
theorem i_mul : SI m T k c t sc N ow .Mult (fun x y S => match x, y with | .int i, .int j => if small64 i || small64 j then .ok (.int (i * j)) S else .bad | _, _ => .bad) := by
  intro X g E pins s σ H x y v u Q I rx ry ⟨ad, S, w, z, R, rw, rz, h⟩
  obtain ⟨rfl, _⟩ := g
  dsimp only at h
  split at h
  · split at h
    · rename_i hs
      cases rw; cases rz
      refine iop_mul pins s σ H _ _ v u Q I rx ry ⟨_, _, rfl, rfl, ?_, run_ok R (.int _) h⟩
      simp only [Bool.or_eq_true, small64, decide_eq_true_eq] at hs
      exact hs
    · exact h.elim
  · exact h.elim
end

/-! ### comparisons -/
/-- the data of a value -/
def dat : Nat → Sto → W → Option PyData
  | _, _, .non => some .none
  | _, _, .bl b => some (.bool b)
  | _, _, .int i => some (.int i)
  | _, _, .str x => some (.str x)
  | n + 1, S, .tup xs => (xs.mapM (dat n S)).map PyData.tuple
  | n + 1, S, .ref i => match S[i]? with
    | some (.lst xs) => (xs.mapM (dat n S)).map PyData.list
    | _ => none
  | _, _, _ => none
section
variable {T : Tab} {K : PySem.W.Frag} {ad : List Addr} {H : Hp} {S : Sto}
theorem dat_all {n : Nat} (ih : ∀ (w : W) (v : V) (d : PyData), dat n S w = some d → RelW K ad H w v → Dp K H v d) : ∀ {ws : List W} {vs : List V} {ds : List PyData}, ws.mapM (dat n S) = some ds → RelWs K ad H ws vs → DpAll K H vs ds
  | [], _, _, h, .nil => by simp at h; subst h; exact .nil
  | w :: ws, _, ds, h, .cons r rr => by
    rw [List.mapM_cons] at h
    cases q : dat n S w with
    | none => rw [q] at h; cases h
    | some d =>
      cases q2 : ws.mapM (dat n S) with
      | none => rw [q, q2] at h; cases h
      | some ds' =>
        rw [q, q2] at h
        cases h
        exact .cons (ih _ _ _ q r) (dat_all ih q2 rr)
theorem dat_dp (R : Rel T K ad H S) : ∀ (n : Nat) (w : W) (v : V) (d : PyData), dat n S w = some d → RelW K ad H w v → Dp K H v d := by
  intro n
  induction n with
  | zero =>
    intro w v d h r
    cases w <;> first | (unfold dat at h; cases h; cases r; constructor) | (unfold dat at h; cases h)
  | succ n ih =>
    intro w v d h r
    cases w with
    | tup xs =>
      unfold dat at h
      cases q : xs.mapM (dat n S) with
      | none => rw [q] at h; cases h
      | some ds =>
        rw [q] at h; cases h
        cases r with
        | tup s1 r1 => exact .tup s1 (dat_all ih q r1)
    | ref i =>
      unfold dat at h
      split at h
      · rename_i xs e
        cases q : xs.mapM (dat n S) with
        | none => rw [q] at h; cases h
        | some ds =>
          rw [q] at h; cases h
          cases r with
          | ref e1 =>
          obtain ⟨vs, h1, r1⟩ := R.lst e1 e
          exact .lst (SqL.of h1) (dat_all ih q r1)
      · cases h
    | _ => first | (unfold dat at h; cases h; cases r; constructor) | (unfold dat at h; cases h)
end
/-- x == y of flat things, of data -/
def eqW (S : Sto) : W → W → Option Bool
  | .int i, .int j => some (decide (i = j))
  | .str a, .str b => some (decide (a = b))
  | .bl a, .bl b => some (decide (a = b))
  | .non, .non => some true
  | .non, .int _ => some false
  | .int _, .non => some false
  | .non, .bl _ => some false
  | .bl _, .non => some false
  | .non, .str _ => some false
  | .str _, .non => some false
  | .int _, .str _ => some false
  | .str _, .int _ => some false
  | .bl _, .str _ => some false
  | .str _, .bl _ => some false
  | x, y => match dat 9 S x, dat 9 S y with
    | some d, some e => if SeqAt.shaped d && SeqAt.shaped e then some (PyData.eqv d e) else none
    | _, _ => none
def pyEq (x y : W) : M W := fun S => match eqW S x y with
  | some b => .ok (.bl b) S
  | none => .bad
def pyNe (x y : W) : M W := fun S => match eqW S x y with
  | some b => .ok (.bl (!b)) S
  | none => .bad
def pyLt (x y : W) : M W := fun S => match x, y with
  | .int i, .int j => .ok (.bl (decide (i < j))) S
  | _, _ => .bad
def pyLe (x y : W) : M W := fun S => match x, y with
  | .int i, .int j => .ok (.bl (decide (i ≤ j))) S
  | _, _ => .bad
def pyGt (x y : W) : M W := fun S => match x, y with
  | .int i, .int j => .ok (.bl (decide (j < i))) S
  | _, _ => .bad
def pyGe (x y : W) : M W := fun S => match x, y with
  | .int i, .int j => .ok (.bl (decide (j ≤ i))) S
  | _, _ => .bad
def isNon : W → Bool
  | .non => true
  | _ => false
def pyIs (x y : W) : M W := fun S => if isNon y then .ok (.bl (isNon x)) S else .bad
def pyIsNot (x y : W) : M W := fun S => if isNon y then .ok (.bl (!isNon x)) S else .bad
section
variable {m : Mo} {T : Tab} {k : Nat} {c t : Bool} {sc : Scope} {N : List Str} {ow : Ow}
theorem SC.of {op : CmpOp} {gg : W → W → M W} (h : ∀ X, Good m k c t sc N ow X → ∀ E, OpR X (compareOp op) (r2 T m.K gg E)) : SC m T k c t sc N ow op gg := fun X g Wx tk σ pins s H x y v u Q I rx ry h' => h X g _ pins s σ H x y v u Q I rx ry h'
theorem eqW_rule {X : Cx} (hu : X.A.units + 64 < cLine) {ad : List Addr} {H : Hp} {S : Sto} {x y : W} {v u : V} {b : Bool} {Q : VK} (R : Rel T X.K ad H S) (rx : RelW X.K ad H x v) (ry : RelW X.K ad H y u) (e : eqW S x y = some b) (h : Q (.bl b) H) :
    rEq v u H Q ∨ rEqD X.K v u H Q := by
  unfold eqW at e
  split at e <;> first
    | (cases e; cases rx; cases ry; left; refine ⟨rfl, ?_⟩; simpa using h)
    | skip
  split at e
  · rename_i d e' h1 h2
    split at e
    · rename_i hs
      cases e
      simp only [Bool.and_eq_true] at hs
      exact .inr ⟨d, e', dat_dp R _ _ _ _ h1 rx, dat_dp R _ _ _ _ h2 ry, hs.1, hs.2, h⟩
    · cases e
  · cases e
theorem eqW_ruleN {X : Cx} (hu : X.A.units + 64 < cLine) {ad : List Addr} {H : Hp} {S : Sto} {x y : W} {v u : V} {b : Bool} {Q : VK} (R : Rel T X.K ad H S) (rx : RelW X.K ad H x v) (ry : RelW X.K ad H y u) (e : eqW S x y = some b) (h : Q (.bl (!b)) H) :
    rNe v u H Q ∨ rNeD X.K v u H Q := by
  unfold eqW at e
  split at e <;> first
    | (cases e; cases rx; cases ry; left; refine ⟨rfl, ?_⟩; simpa using h)
    | skip
  split at e
  · rename_i d e' h1 h2
    split at e
    · rename_i hs
      cases e
      simp only [Bool.and_eq_true] at hs
      exact .inr ⟨d, e', dat_dp R _ _ _ _ h1 rx, dat_dp R _ _ _ _ h2 ry, hs.1, hs.2, h⟩
    · cases e
  · cases e
theorem c_eq : SC m T k c t sc N ow .Eq pyEq := .of fun X g E pins s σ H x y v u Q I rx ry ⟨ad, S, w, z, R, rw, rz, h⟩ => by
  have hu := g.un
  obtain ⟨rfl, _⟩ := g
  unfold pyEq at h
  split at h
  · rename_i b e
    exact (op_eq.or (op_eqD hu)) pins s σ H x y v u Q I rx ry (eqW_rule hu R rw rz e (run_ok R (.bl b) h))
  · exact h.elim
theorem c_ne : SC m T k c t sc N ow .NotEq pyNe := .of fun X g E pins s σ H x y v u Q I rx ry ⟨ad, S, w, z, R, rw, rz, h⟩ => by
  have hu := g.un
  obtain ⟨rfl, _⟩ := g
  unfold pyNe at h
  split at h
  · rename_i b e
    exact (op_ne.or (op_neD hu)) pins s σ H x y v u Q I rx ry (eqW_ruleN hu R rw rz e (run_ok R (.bl _) h))
  · exact h.elim
theorem c_lt : SC m T k c t sc N ow .Lt pyLt := .of fun X g E pins s σ H x y v u Q I rx ry ⟨ad, S, w, z, R, rw, rz, h⟩ => by
  obtain ⟨rfl, _⟩ := g
  unfold pyLt at h
  split at h
  · cases rw; cases rz
    exact op_lt pins s σ H _ _ v u Q I rx ry ⟨_, _, rfl, rfl, run_ok R (.bl _) h⟩
  · exact h.elim
theorem c_le : SC m T k c t sc N ow .LtE pyLe := .of fun X g E pins s σ H x y v u Q I rx ry ⟨ad, S, w, z, R, rw, rz, h⟩ => by
  obtain ⟨rfl, _⟩ := g
  unfold pyLe at h
  split at h
  · cases rw; cases rz
    exact op_le pins s σ H _ _ v u Q I rx ry ⟨_, _, rfl, rfl, run_ok R (.bl _) h⟩
  · exact h.elim
theorem c_gt : SC m T k c t sc N ow .Gt pyGt := .of fun X g E pins s σ H x y v u Q I rx ry ⟨ad, S, w, z, R, rw, rz, h⟩ => by
  obtain ⟨rfl, _⟩ := g
  unfold pyGt at h
  split at h
  · cases rw; cases rz
    exact op_gt pins s σ H _ _ v u Q I rx ry ⟨_, _, rfl, rfl, run_ok R (.bl _) h⟩
  · exact h.elim
theorem c_ge : SC m T k c t sc N ow .GtE pyGe := .of fun X g E pins s σ H x y v u Q I rx ry ⟨ad, S, w, z, R, rw, rz, h⟩ => by
  obtain ⟨rfl, _⟩ := g
  unfold pyGe at h
  split at h
  · cases rw; cases rz
    exact op_ge pins s σ H _ _ v u Q I rx ry ⟨_, _, rfl, rfl, run_ok R (.bl _) h⟩
  · exact h.elim
theorem isNon_iff {K : PySem.W.Frag} {ad : List Addr} {H : Hp} {w : W} {v : V} (r : RelW K ad H w v) : isNon w = decide (v = .non) := by cases r <;> rfl
theorem c_is : SC m T k c t sc N ow .Is pyIs := .of fun X g E pins s σ H x y v u Q I rx ry ⟨ad, S, w, z, R, rw, rz, h⟩ => by
  obtain ⟨rfl, _⟩ := g
  unfold pyIs at h
  split at h
  · rename_i hz
    have ez : y = .non := by rw [isNon_iff rz] at hz; simpa using hz
    refine op_isN pins s σ H _ _ v u Q I rx ry ⟨ez, ?_⟩
    rw [← isNon_iff rw]
    exact run_ok R (.bl _) h
  · exact h.elim
theorem c_isnot : SC m T k c t sc N ow .IsNot pyIsNot := .of fun X g E pins s σ H x y v u Q I rx ry ⟨ad, S, w, z, R, rw, rz, h⟩ => by
  obtain ⟨rfl, _⟩ := g
  unfold pyIsNot at h
  split at h
  · rename_i hz
    have ez : y = .non := by rw [isNon_iff rz] at hz; simpa using hz
    refine op_notN pins s σ H _ _ v u Q I rx ry ⟨ez, ?_⟩
    rw [← isNon_iff rw]
    exact run_ok R (.bl _) h
  · exact h.elim
end

/-! ### in -/
/-- a sign or text within a text -/
def inStr (a b : Str) : Bool := !(Builtin.Str.occurrences b a 0 b.length 1).isEmpty
def flatW : W → Bool
  | .non => true
  | .bl _ => true
  | .int _ => true
  | .str _ => true
  | _ => false
def eqF : W → W → Bool
  | .non, .non => true
  | .bl a, .bl b => a == b
  | .bl a, .int b => (if a then 1 else 0) == b
  | .int a, .bl b => a == (if b then 1 else 0)
  | .int a, .int b => a == b
  | .str a, .str b => a == b
  | _, _ => false
def inF (x : W) (xs : List W) : Option Bool := if flatW x && xs.all flatW then some (xs.any fun y => eqF y x) else none
section
variable {K : PySem.W.Frag} {ad : List Addr} {H : Hp}
theorem flat_of {w : W} {v : V} (r : RelW K ad H w v) : flatV v = flatW w := by cases r <;> rfl
theorem eqF_of {w z : W} {v u : V} (r : RelW K ad H w v) (q : RelW K ad H z u) : eqV v u = eqF w z := by cases r <;> cases q <;> rfl
theorem flats_of : ∀ {ws : List W} {vs : List V}, RelWs K ad H ws vs → vs.all flatV = ws.all flatW
  | _, _, .nil => rfl
  | _, _, .cons r t => by rw [List.all_cons, List.all_cons, flat_of r, flats_of t]
theorem inV_of {w : W} {v : V} (r : RelW K ad H w v) : ∀ {ws : List W} {vs : List V}, RelWs K ad H ws vs → inV v vs = ws.any fun y => eqF y w
  | _, _, .nil => rfl
  | _, _, .cons q t => by
    have ih := inV_of r t
    unfold inV at ih ⊢
    rw [List.any_cons, List.any_cons, eqF_of q r, ih]
end
end RP

/-! RpD: comparisons, tests, arguments, displays, plain statements. -/
namespace RP
open PySem L2

/-! ### in, dicts -/
def lookK (kvs : List (Key × W)) (k : Key) : Option W := (kvs.find? fun kv => decide (kv.1 = k)).map (·.2)
def putKW (kvs : List (Key × W)) (k : Key) (w : W) : List (Key × W) :=
  if (kvs.any fun kv => decide (kv.1 = k)) = true then kvs.map (fun kv => if kv.1 = k then (kv.1, w) else kv) else kvs ++ [(k, w)]
def keyOf : W → Option Key
  | .int n => some (.inl n)
  | .str z => some (.inr z)
  | _ => none
section
variable {T : Tab} {K : PySem.W.Frag} {ad : List Addr} {H : Hp} {S : Sto}
theorem keyOf_rel {w : W} {v : V} {k : Key} (e : keyOf w = some k) (r : RelW K ad H w v) : v = kV k := by
  cases w <;> simp only [keyOf] at e <;> cases e <;> cases r <;> rfl
theorem look_rel {k : Key} : ∀ {kvs : List (Key × W)} {vs : List V}, RelWs K ad H (kvs.map (·.2)) vs →
    (lookK kvs k = none ∧ valV ((kvs.map (·.1)).zip vs) k = none) ∨ ∃ w v, lookK kvs k = some w ∧ valV ((kvs.map (·.1)).zip vs) k = some v ∧ RelW K ad H w v
  | [], _, .nil => .inl ⟨rfl, rfl⟩
  | p :: r, _, .cons q t => by
    by_cases h : p.1 = k
    · refine .inr ⟨p.2, _, by simp [lookK, h], ?_, q⟩
      rw [List.map_cons, List.zip_cons_cons, valV_pos h]
    · rw [List.map_cons, List.zip_cons_cons, valV_neg h]
      have e : lookK (p :: r) k = lookK r k := by simp [lookK, h]
      rw [e]
      exact look_rel t
theorem any_rel {k : Key} : ∀ {kvs : List (Key × W)} {vs : List V}, RelWs K ad H (kvs.map (·.2)) vs →
    (((kvs.map (·.1)).zip vs).any fun kv => decide (kv.1 = k)) = kvs.any fun kv => decide (kv.1 = k)
  | [], _, .nil => rfl
  | p :: r, _, .cons q t => by
    rw [List.map_cons, List.zip_cons_cons, List.any_cons, List.any_cons, any_rel t]
theorem putK_rel {k : Key} {w : W} {v : V} (rw' : RelW K ad H w v) {kvs : List (Key × W)} {vs : List V} (r : RelWs K ad H (kvs.map (·.2)) vs) :
    ∃ us, putK ((kvs.map (·.1)).zip vs) k v = ((putKW kvs k w).map (·.1)).zip us ∧ RelWs K ad H ((putKW kvs k w).map (·.2)) us := by
  unfold putK putKW
  rw [any_rel r]
  split
  · suffices h : ∀ {kvs : List (Key × W)} {vs : List V}, RelWs K ad H (kvs.map (·.2)) vs →
        ∃ us, ((kvs.map (·.1)).zip vs).map (fun kv => if kv.1 = k then (kv.1, v) else kv) = ((kvs.map (fun kv => if kv.1 = k then (kv.1, w) else kv)).map (·.1)).zip us ∧
          RelWs K ad H ((kvs.map (fun kv => if kv.1 = k then (kv.1, w) else kv)).map (·.2)) us from h r
    intro kvs
    induction kvs with
    | nil => intro vs r; cases r; exact ⟨[], rfl, .nil⟩
    | cons p q ih =>
      intro vs r
      cases r with
      | @cons _ v' _ vs' r t =>
      obtain ⟨us, h1, h2⟩ := ih t
      by_cases hk : p.1 = k
      · refine ⟨v :: us, ?_, ?_⟩
        · simp only [List.map_cons, List.zip_cons_cons, if_pos hk, h1]
        · simp only [List.map_cons, if_pos hk]
          exact .cons rw' h2
      · refine ⟨v' :: us, ?_, ?_⟩
        · simp only [List.map_cons, List.zip_cons_cons, if_neg hk, h1]
        · simp only [List.map_cons, if_neg hk]
          exact .cons r h2
  · refine ⟨vs ++ [v], ?_, ?_⟩
    · rw [List.map_append, List.zip_append (by rw [← r.length]; simp)]
      rfl
    · rw [List.map_append]
      exact r.append (.cons rw' .nil)
end
def inW' (S : Sto) (x y : W) : Option Bool := match y with
  | .str b => match x with
    | .str a => some (inStr a b)
    | _ => none
  | .tup ys => inF x ys
  | .ref i => match S[i]? with
    | some (.lst ys) => inF x ys
    | some (.dct kvs) => (keyOf x).map fun k => (lookK kvs k).isSome
    | _ => none
  | _ => none
def pyIn (x y : W) : M W := fun S => match inW' S x y with
  | some b => .ok (.bl b) S
  | none => .bad
def pyNotIn (x y : W) : M W := fun S => match inW' S x y with
  | some b => .ok (.bl (!b)) S
  | none => .bad
section
variable {m : Mo} {T : Tab} {k : Nat} {c t : Bool} {sc : Scope} {N : List Str} {ow : Ow}
theorem inF_rule {X : Cx} {ad : List Addr} {H : Hp} {x : W} {v : V} {ws : List W} {vs : List V} {b neg : Bool} {p : Addr} {Q : VK} (rx : RelW X.K ad H x v) (r : RelWs X.K ad H ws vs) (q : SqL X.K H p vs ∨ SqT X.K H p vs) (e : inF x ws = some b)
    (h : Q (.bl (if neg then !b else b)) H) : rIn X.K neg v (.ref p) H Q := by
  unfold inF at e
  split at e
  · rename_i hf
    cases e
    simp only [Bool.and_eq_true] at hf
    refine ⟨p, vs, rfl, q, by rw [flat_of rx]; exact hf.1, by rw [flats_of r]; exact hf.2, ?_⟩
    rw [inV_of rx r]
    exact h
  · cases e
theorem c_in : SC m T k c t sc N ow .In pyIn := .of fun X g E pins s σ H x y v u Q I rx ry ⟨ad, S, w, z, R, rw', rz, h⟩ => by
  have hu : X.A.units + 1 < cLine := by have := g.un; omega
  obtain ⟨rfl, _⟩ := g
  unfold pyIn at h
  split at h
  · rename_i b e
    have h := run_ok R (.bl b) h
    unfold inW' at e
    split at e
    · split at e
      · cases e; cases rw'; cases rz
        exact op_in_str pins s σ H _ _ v u Q I rx ry ⟨_, _, rfl, rfl, h⟩
      · cases e
    · cases rz with
      | tup s1 r1 => exact op_in_seq pins s σ H _ _ v u Q I rx ry (inF_rule (neg := false) rw' r1 (.inr s1) e h)
    · cases rz with
      | ref e1 =>
      split at e
      · rename_i ys h1
        obtain ⟨vs, q1, r1⟩ := R.lst e1 h1
        exact op_in_seq pins s σ H _ _ v u Q I rx ry (inF_rule (neg := false) rw' r1 (.inl (SqL.of q1)) e h)
      · rename_i kvs h1
        obtain ⟨vs, q1, r1⟩ := R.ob _ _ _ e1 h1
        cases hk : keyOf w with
        | none => rw [hk] at e; cases e
        | some kk =>
          rw [hk] at e
          cases e
          obtain rfl : u = Value.ref _ := ry
          have hv := keyOf_rel hk rw'
          subst hv
          refine d_in hu I (DGet.k (k := kk) q1) rx fun s' I' => ⟨.bl _, H, I', rfl, ?_⟩
          rcases look_rel (k := kk) r1 with ⟨a1, a2⟩ | ⟨w', v', a1, a2, _⟩
          · dsimp only at h; rw [a2]; rw [a1] at h; exact h
          · dsimp only at h; rw [a2]; rw [a1] at h; exact h
      · cases e
    · cases e
  · exact h.elim
theorem c_notin : SC m T k c t sc N ow .NotIn pyNotIn := .of fun X g E pins s σ H x y v u Q I rx ry ⟨ad, S, w, z, R, rw', rz, h⟩ => by
  have hu : X.A.units + 1 < cLine := by have := g.un; omega
  obtain ⟨rfl, _⟩ := g
  unfold pyNotIn at h
  split at h
  · rename_i b e
    have h := run_ok R (.bl _) h
    unfold inW' at e
    split at e
    · split at e
      · cases e; cases rw'; cases rz
        exact op_notin_str pins s σ H _ _ v u Q I rx ry ⟨_, _, rfl, rfl, h⟩
      · cases e
    · cases rz with
      | tup s1 r1 => exact op_notIn_seq pins s σ H _ _ v u Q I rx ry (inF_rule (neg := true) rw' r1 (.inr s1) e h)
    · cases rz with
      | ref e1 =>
      split at e
      · rename_i ys h1
        obtain ⟨vs, q1, r1⟩ := R.lst e1 h1
        exact op_notIn_seq pins s σ H _ _ v u Q I rx ry (inF_rule (neg := true) rw' r1 (.inl (SqL.of q1)) e h)
      · rename_i kvs h1
        obtain ⟨vs, q1, r1⟩ := R.ob _ _ _ e1 h1
        cases hk : keyOf w with
        | none => rw [hk] at e; cases e
        | some kk =>
          rw [hk] at e
          cases e
          obtain rfl : u = Value.ref _ := ry
          have hv := keyOf_rel hk rw'
          subst hv
          refine d_notIn hu I (DGet.k (k := kk) q1) rx fun s' I' => ⟨.bl _, H, I', rfl, ?_⟩
          rcases look_rel (k := kk) r1 with ⟨a1, a2⟩ | ⟨w', v', a1, a2, _⟩
          · dsimp only at h; rw [a2]; rw [a1] at h; exact h
          · dsimp only at h; rw [a2]; rw [a1] at h; exact h
      · cases e
    · cases e
  · exact h.elim
end

section
variable {m : Mo} {T : Tab} {k : Nat} {c t : Bool} {sc : Scope} {N : List Str} {ow : Ow} {a b d : Expr} {fa fb fd : Slots → M W} {ga gb : Slots → M Bool} {pos : Pos} {rest : List Expr}
/-! ### comparisons as expressions, as tests -/
theorem pc_of {op : CmpOp} {gg : W → W → M W} (ho : SC m T k c t sc N ow op gg) (ha : SE m T k c t sc N ow a fa) (hb : SE m T k c t sc N ow b fb) {X : Cx} (g : Good m k c t sc N ow X) {Wx : WX} (tk : Takes X Wx) :
    PC X op a b (rd T m.K (fun sl => bd (fa sl) fun x => bd (fb sl) fun y => gg x y) Wx) := by
  refine ⟨fun pins s σ H Q I h => ?_⟩
  obtain ⟨ad, S, sl, R, L, h⟩ := h
  refine thn ((ha X g Wx tk).run pins s σ H _ I ⟨ad, S, sl, R, L, run_bd h⟩) ?_
  rintro v s1 ⟨x, H1, I1, rx, ad1, S1, w1, l1, R1, r1, h1⟩
  refine thn ((hb X g Wx tk).run pins s1 σ H1 _ I1 ⟨ad1, S1, sl, R1, L.mono l1, run_bd h1⟩) ?_
  rintro u s2 ⟨y, H2, I2, ry, ad2, S2, w2, l2, R2, r2, h2⟩
  exact ho X g Wx tk σ pins s2 H2 x y v u Q I2 rx ry ⟨ad2, S2, w1, w2, R2, r1.mono l2, r2, h2⟩
theorem e_cmp {op : CmpOp} {gg : W → W → M W} (ho : SC m T k c t sc N ow op gg) (ha : SE m T k c t sc N ow a fa) (hb : SE m T k c t sc N ow b fb) (hm : behindInMarks op b = false := by first | exact nobehind _ (by decide) (by decide) | rfl) :
    SE m T k c t sc N ow (.Compare a [op] [b] pos) (fun sl => bd (fa sl) fun x => bd (fb sl) fun y => gg x y) := fun X g Wx tk => pe_cmp (pc_of ho ha hb g tk) hm
/-- the truth of a bool -/
def blM (w : W) : M Bool := fun S => match w with
  | .bl b => .ok b S
  | _ => .bad
theorem rdT_blM {f : Slots → M W} {Wx : WX} {σ : St} {H : Hp} {Q : Bool → Hp → Prop} (h : rdT T m.K (fun sl => bd (f sl) blM) Wx σ H Q) : tB (rd T m.K f Wx) σ H Q := by
  obtain ⟨ad, S, sl, R, L, h⟩ := h
  refine ⟨ad, S, sl, R, L, run_imp (run_bdT h) ?_⟩
  rintro v H1 ⟨ad1, S1, w1, l1, R1, r1, h1⟩
  unfold blM at h1
  split at h1
  · cases r1
    exact ⟨_, rfl, h1 _ _ Le.refl R1⟩
  · exact h1.elim
theorem t_cmp {op : CmpOp} {gg : W → W → M W} (ho : SC m T k c t sc N ow op gg) (ha : SE m T k c t sc N ow a fa) (hb : SE m T k c t sc N ow b fb) (hm : behindInMarks op b = false := by first | exact nobehind _ (by decide) (by decide) | rfl) :
    ST m T k c t sc N ow (.Compare a [op] [b] pos) (fun sl => bd (bd (fa sl) fun x => bd (fb sl) fun y => gg x y) blM) := fun X g Wx tk =>
  (pt_cmp (pc_of ho ha hb g tk) hm).imp fun σ H Q h => rdT_blM h
/-- a op1 b op2 d: by operations that raise nothing -/
def chainM (g1 g2 : W → W → M W) (fa fb fd : M W) : M W := bd fa fun x => bd fb fun y => bd (g1 x y) fun z => match z with
  | .bl true => bd fd fun w => g2 y w
  | .bl false => ret (.bl false)
  | _ => stuck
theorem e_chain {op op' : CmpOp} {g1 g2 : W → W → M W} (ho : ∀ X, Good m k c t sc N ow X → ∀ E, OpR X (compareOp op) (r2 T m.K g1 E)) (ho' : ∀ X, Good m k c t sc N ow X → ∀ E, OpR X (compareOp op') (r2 T m.K g2 E)) (ha : SE m T k c t sc N ow a fa) (hb : SE m T k c t sc N ow b fb) (hd : SE m T k c t sc N ow d fd)
    (hm : lastMarks [op, op'] [b, d] = false := by with_unfolding_all rfl) : SE m T k c t sc N ow (.Compare a [op, op'] [b, d] pos) (fun sl => chainM g1 g2 (fa sl) (fb sl) (fd sl)) := fun X g Wx tk => by
  refine ⟨fun pins s σ H Q I h => ?_⟩
  refine (pe_chain (ho X g fun c d H' => Wx c d σ H') (ho' X g fun c d H' => Wx c d σ H') (ha X g Wx tk) (hb X g Wx tk) (hd X g Wx tk) hm).run pins s σ H Q I ?_
  obtain ⟨ad, S, sl, R, L, h⟩ := h
  refine ⟨ad, S, sl, R, L, run_imp (run_bd h) ?_⟩
  rintro v H1 ⟨ad1, S1, w1, l1, R1, r1, h1⟩
  refine ⟨ad1, S1, sl, R1, L.mono l1, run_imp (run_bd h1) ?_⟩
  rintro u H2 ⟨ad2, S2, w2, l2, R2, r2, h2⟩
  refine ⟨ad2, S2, w1, w2, R2, r1.mono l2, r2, run_imp (run_bd h2) ?_⟩
  rintro z H3 ⟨ad3, S3, w3, l3, R3, r3, h3⟩
  split at h3
  · cases r3
    refine ⟨true, rfl, ?_⟩
    rw [if_pos rfl]
    refine ⟨ad3, S3, sl, R3, ((L.mono l1).mono l2).mono l3, run_imp (run_bd h3) ?_⟩
    rintro y H4 ⟨ad4, S4, w4, l4, R4, r4, h4⟩
    exact ⟨ad4, S4, w2, w4, R4, (r2.mono l3).mono l4, r4, h4⟩
  · cases r3
    refine ⟨false, rfl, ?_⟩
    rw [if_neg Bool.false_ne_true]
    exact run_ok R3 (.bl false) h3
  · exact h3.elim
/-! ### truth -/
def truM (w : W) : M Bool := fun S => match w with
  | .non => .ok false S
  | .bl b => .ok b S
  | .int i => .ok (i != 0) S
  | .str x => if x.length ≤ sizeLine then .ok ((x.length : Int) != 0) S else .bad
  | .tup xs => .ok (!xs.isEmpty) S
  | .ref i => match seqOf S i with
    | some xs => .ok (!xs.isEmpty) S
    | none => .bad
  | _ => .bad
theorem isEmpty_rel {K : PySem.W.Frag} {ad : List Addr} {H : Hp} {ws : List W} {vs : List V} (r : RelWs K ad H ws vs) : vs.isEmpty = ws.isEmpty := by cases r <;> rfl
theorem t_val (ha : SE m T k c t sc N ow a fa) (he : ∀ env whole, isTrue a env whole = (do let v ← whole; standAt a.pos; holding [v] (truthy v)) := by intro _ _; rfl) :
    ST m T k c t sc N ow a (fun sl => bd (fa sl) truM) := fun X g Wx tk => by
  refine (pt_truth (ha X g Wx tk) (he X.env)).imp fun σ H Q h => ?_
  have ek : X.K = m.K := by rw [← g.mo]; rfl
  obtain ⟨ad, S, sl, R, L, h⟩ := h
  refine ⟨ad, S, sl, R, L, run_imp (run_bdT h) ?_⟩
  rintro v H1 ⟨ad1, S1, w1, l1, R1, r1, h1⟩
  rw [ek]
  unfold truM at h1
  split at h1
  · cases r1; exact ⟨_, rfl, h1 _ _ Le.refl R1⟩
  · cases r1; exact ⟨_, rfl, h1 _ _ Le.refl R1⟩
  · cases r1; exact ⟨_, rfl, h1 _ _ Le.refl R1⟩
  · split at h1
    · cases r1; exact ⟨_, ⟨by assumption, rfl⟩, h1 _ _ Le.refl R1⟩
    · exact h1.elim
  · cases r1 with
    | tup s1 r2 => exact ⟨_, .inr (.inl ⟨_, s1, by rw [isEmpty_rel r2]⟩), h1 _ _ Le.refl R1⟩
  · cases r1 with
    | ref e =>
    split at h1
    · rename_i ws hs
      obtain ⟨vs, q, r⟩ := R1.seq e hs
      exact ⟨_, .inl ⟨_, q, by rw [isEmpty_rel r]⟩, h1 _ _ Le.refl R1⟩
    · exact h1.elim
  · exact h1.elim
/-! ### and, or, not -/
theorem e_one {op : BoolOp} (ha : SE m T k c t sc N ow a fa) : SE m T k c t sc N ow (.BoolOp op [a] pos) fa := fun X g Wx tk => pe_one (ha X g Wx tk)
def andW (x y : M W) : M W := bd x fun w => match w with
  | .bl true => y
  | .bl false => ret (.bl false)
  | _ => stuck
def orW (x y : M W) : M W := bd x fun w => match w with
  | .bl true => ret (.bl true)
  | .bl false => y
  | _ => stuck
theorem e_and (ha : SE m T k c t sc N ow a fa) (hb : SE m T k c t sc N ow (.BoolOp .And (b :: rest) pos) fb) : SE m T k c t sc N ow (.BoolOp .And (a :: b :: rest) pos) (fun sl => andW (fa sl) (fb sl)) := fun X g Wx tk => by
  refine (pe_and (ha X g Wx tk) (hb X g Wx tk)).imp fun σ H Q h => ?_
  obtain ⟨ad, S, sl, R, L, h⟩ := h
  refine ⟨ad, S, sl, R, L, run_imp (run_bd h) ?_⟩
  rintro v H1 ⟨ad1, S1, w1, l1, R1, r1, h1⟩
  split at h1
  · cases r1
    refine ⟨true, rfl, ?_⟩
    rw [if_pos rfl]
    exact ⟨ad1, S1, sl, R1, L.mono l1, h1⟩
  · cases r1
    refine ⟨false, rfl, ?_⟩
    rw [if_neg Bool.false_ne_true]
    exact run_ok R1 (.bl false) h1
  · exact h1.elim
theorem e_or (ha : SE m T k c t sc N ow a fa) (hb : SE m T k c t sc N ow (.BoolOp .Or (b :: rest) pos) fb) : SE m T k c t sc N ow (.BoolOp .Or (a :: b :: rest) pos) (fun sl => orW (fa sl) (fb sl)) := fun X g Wx tk => by
  refine (pe_or (ha X g Wx tk) (hb X g Wx tk)).imp fun σ H Q h => ?_
  obtain ⟨ad, S, sl, R, L, h⟩ := h
  refine ⟨ad, S, sl, R, L, run_imp (run_bd h) ?_⟩
  rintro v H1 ⟨ad1, S1, w1, l1, R1, r1, h1⟩
  split at h1
  · cases r1
    refine ⟨true, rfl, ?_⟩
    rw [if_pos rfl]
    exact run_ok R1 (.bl true) h1
  · cases r1
    refine ⟨false, rfl, ?_⟩
    rw [if_neg Bool.false_ne_true]
    exact ⟨ad1, S1, sl, R1, L.mono l1, h1⟩
  · exact h1.elim
def ngW (w : W) : M W := fun S => match w with
  | .bl b => .ok (.bl (!b)) S
  | _ => .bad
theorem e_not (ha : SE m T k c t sc N ow a fa) : SE m T k c t sc N ow (.UnaryOp .Not a pos) (fun sl => bd (fa sl) ngW) := fun X g Wx tk => by
  refine (pe_not (ha X g Wx tk)).imp fun σ H Q h => ?_
  obtain ⟨ad, S, sl, R, L, h⟩ := h
  refine ⟨ad, S, sl, R, L, run_imp (run_bd h) ?_⟩
  rintro v H1 ⟨ad1, S1, w1, l1, R1, r1, h1⟩
  unfold ngW at h1
  split at h1
  · cases r1
    exact ⟨_, rfl, run_ok R1 (.bl _) h1⟩
  · exact h1.elim
theorem w_and1 (ha : ST m T k c t sc N ow a ga) : SW m T k c t sc N ow (.BoolOp .And [a] pos) ga := fun X g Wx tk => pw_and1 (ha X g Wx tk)
theorem w_or1 (ha : ST m T k c t sc N ow a ga) : SW m T k c t sc N ow (.BoolOp .Or [a] pos) ga := fun X g Wx tk => pw_or1 (ha X g Wx tk)
def andT (x y : M Bool) : M Bool := bd x fun b => match b with
  | true => y
  | false => ret false
def orT (x y : M Bool) : M Bool := bd x fun b => match b with
  | true => ret true
  | false => y
theorem w_and (ha : ST m T k c t sc N ow a ga) (hb : SW m T k c t sc N ow (.BoolOp .And (b :: rest) pos) gb) : SW m T k c t sc N ow (.BoolOp .And (a :: b :: rest) pos) (fun sl => andT (ga sl) (gb sl)) := fun X g Wx tk => by
  refine (pw_and (ha X g Wx tk) (hb X g Wx tk)).imp fun σ H Q h => ?_
  obtain ⟨ad, S, sl, R, L, h⟩ := h
  refine ⟨ad, S, sl, R, L, runT_imp (runT_bdT h) ?_⟩
  rintro v H1 ⟨ad1, S1, l1, R1, h1⟩
  cases v with
  | true => rw [if_pos rfl]; exact ⟨ad1, S1, sl, R1, L.mono l1, h1⟩
  | false => rw [if_neg Bool.false_ne_true]; exact h1 _ _ Le.refl R1
theorem w_or (ha : ST m T k c t sc N ow a ga) (hb : SW m T k c t sc N ow (.BoolOp .Or (b :: rest) pos) gb) : SW m T k c t sc N ow (.BoolOp .Or (a :: b :: rest) pos) (fun sl => orT (ga sl) (gb sl)) := fun X g Wx tk => by
  refine (pw_or (ha X g Wx tk) (hb X g Wx tk)).imp fun σ H Q h => ?_
  obtain ⟨ad, S, sl, R, L, h⟩ := h
  refine ⟨ad, S, sl, R, L, runT_imp (runT_bdT h) ?_⟩
  rintro v H1 ⟨ad1, S1, l1, R1, h1⟩
  cases v with
  | true => rw [if_pos rfl]; exact h1 _ _ Le.refl R1
  | false => rw [if_neg Bool.false_ne_true]; exact ⟨ad1, S1, sl, R1, L.mono l1, h1⟩
theorem t_w {f : Slots → M Bool} (h : SW m T k c t sc N ow a f) : ST m T k c t sc N ow a f := fun X g Wx tk => (h X g Wx tk).pt
theorem t_not (ha : ST m T k c t sc N ow a ga) : ST m T k c t sc N ow (.UnaryOp .Not a pos) (fun sl => bd (ga sl) fun b => ret (!b)) := fun X g Wx tk => by
  refine (pt_not (ha X g Wx tk)).imp fun σ H Q h => ?_
  obtain ⟨ad, S, sl, R, L, h⟩ := h
  refine ⟨ad, S, sl, R, L, runT_imp (runT_bdT h) ?_⟩
  rintro v H1 ⟨ad1, S1, l1, R1, h1⟩
  exact h1 _ _ Le.refl R1
def iteM {α : Type} (x : M Bool) (y z : M α) : M α := bd x fun b => match b with
  | true => y
  | false => z
theorem e_if (hc : ST m T k c t sc N ow d ga) (ha : SE m T k c t sc N ow a fa) (hb : SE m T k c t sc N ow b fb) : SE m T k c t sc N ow (.IfExp d a b pos) (fun sl => iteM (ga sl) (fa sl) (fb sl)) := fun X g Wx tk => by
  refine (pe_ifExp (hc X g Wx tk) (ha X g Wx tk) (hb X g Wx tk)).imp fun σ H Q h => ?_
  obtain ⟨ad, S, sl, R, L, h⟩ := h
  refine ⟨ad, S, sl, R, L, runT_imp (runT_bd h) ?_⟩
  rintro v H1 ⟨ad1, S1, l1, R1, h1⟩
  cases v with
  | true => rw [if_pos rfl]; exact ⟨ad1, S1, sl, R1, L.mono l1, h1⟩
  | false => rw [if_neg Bool.false_ne_true]; exact ⟨ad1, S1, sl, R1, L.mono l1, h1⟩
/-! ### arguments, displays -/
variable {es : List Expr} {fs : Slots → M (List W)}
theorem a_nil : SA m T k c t sc N ow [] (fun _ => ret []) := fun X g Wx tk => pa_nil.imp fun σ H Q h => by
  obtain ⟨ad, S, sl, R, L, h⟩ := h
  exact h _ _ _ Le.refl R .nil
theorem a_cons (ha : SE m T k c t sc N ow a fa) (hr : SA m T k c t sc N ow es fs) (hs : ∀ env, starEach (a :: es) env = (false, eval a env) :: starEach es env := by intro _; rfl) :
    SA m T k c t sc N ow (a :: es) (fun sl => bd (fa sl) fun x => bd (fs sl) fun xs => ret (x :: xs)) := fun X g Wx tk => by
  refine (pa_cons (ha X g Wx tk) (hr X g Wx tk) (hs X.env)).imp fun σ H Q h => ?_
  obtain ⟨ad, S, sl, R, L, h⟩ := h
  refine ⟨ad, S, sl, R, L, run_imp (run_bdA h) ?_⟩
  rintro v H1 ⟨ad1, S1, w1, l1, R1, r1, h1⟩
  refine ⟨ad1, S1, sl, R1, L.mono l1, runA_imp (runA_bdA h1) ?_⟩
  rintro vs H2 ⟨ad2, S2, ws, l2, R2, r2, h2⟩
  exact h2 _ _ _ Le.refl R2 (.cons (r1.mono l2) r2)
def tupM (ws : List W) : M W := fun S => if ws.length ≤ sizeLine then .ok (.tup ws) S else .bad
def lstM (ws : List W) : M W := fun S => if ws.length ≤ sizeLine then .ok (.ref S.length) (S ++ [.lst ws]) else .bad
theorem e_tup {x1 : Nat} (h : SA m T k c t sc N ow es fs) : SE m T k c t sc N ow (.Tuple es x1 pos) (fun sl => bd (fs sl) tupM) := fun X g Wx tk => by
  refine (pe_tup (h X g Wx tk)).imp fun σ H Q h => ?_
  obtain ⟨ad, S, sl, R, L, h⟩ := h
  refine ⟨ad, S, sl, R, L, runA_imp (runA_bd h) ?_⟩
  rintro vs H1 ⟨ad1, S1, ws, l1, R1, r1, h1⟩
  unfold tupM at h1
  split at h1
  · exact ⟨by rw [← r1.length]; assumption, fun p hp => run_newtup R1 hp r1 h1⟩
  · exact h1.elim
theorem e_lst (h : SA m T k c t sc N ow es fs) : SE m T k c t sc N ow (.List es pos) (fun sl => bd (fs sl) lstM) := fun X g Wx tk => by
  refine (pe_lst (h X g Wx tk)).imp fun σ H Q h => ?_
  obtain ⟨ad, S, sl, R, L, h⟩ := h
  refine ⟨ad, S, sl, R, L, runA_imp (runA_bd h) ?_⟩
  rintro vs H1 ⟨ad1, S1, ws, l1, R1, r1, h1⟩
  unfold lstM at h1
  split at h1
  · exact ⟨by rw [← r1.length]; assumption, fun p hp => run_newlst R1 hp r1 h1⟩
  · exact h1.elim
end
end RP

/-! RpE: statements, targets, loops. -/
namespace RP
open PySem L2

def exS (sl : Slots) (m : M W) (k : W → M Fl) : M Fl := fun S => match m S with
  | .ok w S' => k w S'
  | .ex x S' => .ok (.xx x sl) S'
  | .bad => .bad
def exT (sl : Slots) (m : M Bool) (k : Bool → M Fl) : M Fl := fun S => match m S with
  | .ok w S' => k w S'
  | .ex x S' => .ok (.xx x sl) S'
  | .bad => .bad
def exA (sl : Slots) (m : M (List W)) (k : List W → M Fl) : M Fl := fun S => match m S with
  | .ok w S' => k w S'
  | .ex x S' => .ok (.xx x sl) S'
  | .bad => .bad
/-- one statement, then others -/
def seqM (m : M Fl) (k : Slots → M Fl) : M Fl := fun S => match m S with
  | .ok (.nx sl) S' => k sl S'
  | r => r

section
variable {T : Tab} {K : PySem.W.Frag} {ad : List Addr} {H : Hp} {S : Sto} {sl : Slots} {σ : St} {D : Ends} {Wx : WX}
theorem run_exS {f : M W} {g : W → M Fl} (L : RelSl K ad H sl σ) (h : runS T K ad H (exS sl f g S) D Wx) :
    run T K ad H (f S) (fun v H1 => ∃ ad1 S1 w, Le K ad H ad1 H1 ∧ Rel T K ad1 H1 S1 ∧ RelW K ad1 H1 w v ∧ runS T K ad1 H1 (g w S1) D Wx) fun c d H' => Wx c d σ H' := by
  unfold exS at h
  cases q : f S with
  | ok w S1 => rw [q] at h; exact fun a b c l R r => ⟨a, S1, w, l, R, r, runS_mono l h⟩
  | ex x S => rw [q] at h; exact fun a b c d l R r => h a b c d σ l R r (L.mono l)
  | bad => rw [q] at h; exact h
theorem run_exT {f : M Bool} {g : Bool → M Fl} (L : RelSl K ad H sl σ) (h : runS T K ad H (exT sl f g S) D Wx) :
    runT T K ad H (f S) (fun b H1 => ∃ ad1 S1, Le K ad H ad1 H1 ∧ Rel T K ad1 H1 S1 ∧ runS T K ad1 H1 (g b S1) D Wx) fun c d H' => Wx c d σ H' := by
  unfold exT at h
  cases q : f S with
  | ok w S1 => rw [q] at h; exact fun a b l R => ⟨a, S1, l, R, runS_mono l h⟩
  | ex x S => rw [q] at h; exact fun a b c d l R r => h a b c d σ l R r (L.mono l)
  | bad => rw [q] at h; exact h
theorem run_exA {f : M (List W)} {g : List W → M Fl} (L : RelSl K ad H sl σ) (h : runS T K ad H (exA sl f g S) D Wx) :
    runA T K ad H (f S) (fun vs H1 => ∃ ad1 S1 ws, Le K ad H ad1 H1 ∧ Rel T K ad1 H1 S1 ∧ RelWs K ad1 H1 ws vs ∧ runS T K ad1 H1 (g ws S1) D Wx) fun c d H' => Wx c d σ H' := by
  unfold exA at h
  cases q : f S with
  | ok w S1 => rw [q] at h; exact fun a b c l R r => ⟨a, S1, w, l, R, r, runS_mono l h⟩
  | ex x S => rw [q] at h; exact fun a b c d l R r => h a b c d σ l R r (L.mono l)
  | bad => rw [q] at h; exact h
theorem runS_seq {f : M Fl} {g : Slots → M Fl} (h : runS T K ad H (seqM f g S) D Wx) :
    runS T K ad H (f S) { D with nx := fun σ H => ∃ ad1 S1 sl, Rel T K ad1 H S1 ∧ RelSl K ad1 H sl σ ∧ runS T K ad1 H (g sl S1) D Wx } Wx := by
  unfold seqM at h
  cases q : f S with
  | ok w S1 =>
    rw [q] at h
    cases w with
    | nx sl => exact fun a b c l R L => ⟨a, S1, sl, R, L, runS_mono l h⟩
    | rt w => exact h
    | bk w => exact h
    | ct w => exact h
    | xx x w => exact h
  | ex x S => rw [q] at h; exact h
  | bad => rw [q] at h; exact h
theorem runS_nx (R : Rel T K ad H S) (L : RelSl K ad H sl σ) (h : runS T K ad H (.ok (.nx sl) S) D Wx) : D.nx σ H := h _ _ _ Le.refl R L
end

section
variable (m : Mo) (T : Tab) (k : Nat) (c t : Bool) (sc : Scope) (N : List Str) (ow : Ow)
/-- a target takes a value (it raises nothing) -/
def runG (T : Tab) (K : PySem.W.Frag) (ad : List Addr) (H : Hp) (r : Res Slots) (Q : St → Hp → Prop) : Prop := match r with
  | .ok sl S => ∀ ad' H' σ, Le K ad H ad' H' → Rel T K ad' H' S → RelSl K ad' H' sl σ → Q σ H'
  | _ => False
def rdG (T : Tab) (K : PySem.W.Frag) (f : W → Slots → M Slots) : TG := fun v σ H Q => ∃ ad S sl w, Rel T K ad H S ∧ RelSl K ad H sl σ ∧ RelW K ad H w v ∧ runG T K ad H (f w sl S) Q
def rdGs (T : Tab) (K : PySem.W.Frag) (f : List W → Slots → M Slots) : TGs := fun vs σ H Q => ∃ ad S sl ws, Rel T K ad H S ∧ RelSl K ad H sl σ ∧ RelWs K ad H ws vs ∧ runG T K ad H (f ws sl S) Q
def SG (tg : Expr) (f : W → Slots → M Slots) : Prop := ∀ X, Good m k c t sc N ow X → PG X tg (rdG T m.K f)
def SGs (tg : List Expr) (f : List W → Slots → M Slots) : Prop := ∀ X, Good m k c t sc N ow X → PGs X tg (rdGs T m.K f)
end
end RP
namespace L2
open PySem
theorem PG.imp {X : Cx} {e : Expr} {t t' : TG} (h : PG X e t) (i : ∀ v σ H Q, t' v σ H Q → t v σ H Q) : PG X e t' := ⟨fun pins s σ H v u Q I r q => h.run pins s σ H v u Q I r (i v σ H Q q)⟩
theorem PGs.imp {X : Cx} {e : List Expr} {t t' : TGs} (h : PGs X e t) (i : ∀ v σ H Q, t' v σ H Q → t v σ H Q) : PGs X e t' := ⟨fun pins s σ H v u Q I r q => h.run pins s σ H v u Q I r (i v σ H Q q)⟩
end L2
namespace RP
open PySem L2
section
variable {m : Mo} {T : Tab} {k : Nat} {c t : Bool} {sc : Scope} {N : List Str} {ow : Ow} {a b e : Expr} {fa fb fe : Slots → M W} {ga gb : Slots → M Bool} {pos : Pos} {st : Stmt} {sts : List Stmt} {f f' : Slots → M Fl}
/-- a name that may be stored -/
def LocO (sc : Scope) (ow : Ow) (x : Str) : Prop := sc.names.lookup x = some .local ∨ (sc.names.lookup x = some .cell ∧ x ∈ ow.fns)
theorem hf_of {X : Cx} (g : Good m k c t sc N ow X) {x : Str} (hx : LocO sc ow x) : X.fn x = true ∨ X.env.scope.names.lookup x = some .local := by
  rcases hx with h | h
  · exact .inr (by rw [g.hsc]; exact h)
  · exact .inl (g.fn x h.2)
theorem loc_of {X : Cx} (g : Good m k c t sc N ow X) {x : Str} (hx : LocO sc ow x) : Loc X.env.scope x := by
  rw [g.hsc]
  rcases hx with h | h
  · exact .inl h
  · exact .inr h.1
/-! ### blocks -/
theorem ss_nil : SSs m T k c t sc N ow [] (fun sl => ret (.nx sl)) := fun X g Wx tk => pss_nil.imp fun D σ H h => by
  obtain ⟨ad, S, sl, R, L, h⟩ := h
  exact runS_nx R L h
theorem ss_cons (h1 : SS m T k c t sc N ow st f) (h2 : SSs m T k c t sc N ow sts f') : SSs m T k c t sc N ow (st :: sts) (fun sl => seqM (f sl) f') := fun X g Wx tk => by
  refine (pss_cons (h1 X g Wx tk) (h2 X g Wx tk)).imp fun D σ H h => ?_
  obtain ⟨ad, S, sl, R, L, h⟩ := h
  exact ⟨ad, S, sl, R, L, runS_seq h⟩
theorem ss_one (h1 : SS m T k c t sc N ow st f) : SSs m T k c t sc N ow [st] f := fun X g Wx tk => pss_one (h1 X g Wx tk)
theorem s_continue : SS m T k c t sc N ow (.Continue pos) (fun sl => ret (.ct sl)) := fun X g Wx tk => ps_continue.imp fun D σ H h => by
  obtain ⟨ad, S, sl, R, L, h⟩ := h
  exact h _ _ _ Le.refl R L
theorem s_expr (he : SE m T k c t sc N ow e fe) (hs : ∀ l env, swapsWith e none l env = pure false := by intro _ _; rfl) : SS m T k c t sc N ow (.Expr e pos) (fun sl => exS sl (fe sl) fun _ => ret (.nx sl)) := fun X g Wx tk => by
  refine (ps_expr (he X g Wx tk) (hs _ _)).imp fun D σ H h => ?_
  obtain ⟨ad, S, sl, R, L, h⟩ := h
  refine ⟨ad, S, sl, R, L, run_imp (run_exS L h) ?_⟩
  rintro v H1 ⟨ad1, S1, w1, l1, R1, r1, h1⟩
  exact runS_nx R1 (L.mono l1) h1
theorem s_ret (he : SE m T k c t sc N ow e fe) : SS m T k c t sc N ow (.Return (some e) pos) (fun sl => exS sl (fe sl) fun w => ret (.rt w)) := fun X g Wx tk => by
  refine (ps_ret (he X g Wx tk)).imp fun D σ H h => ?_
  obtain ⟨ad, S, sl, R, L, h⟩ := h
  refine ⟨ad, S, sl, R, L, run_imp (run_exS L h) ?_⟩
  rintro v H1 ⟨ad1, S1, w1, l1, R1, r1, h1⟩
  exact h1 _ _ _ Le.refl R1 r1
theorem s_retN : SS m T k c t sc N ow (.Return none pos) (fun sl => ret (.rt .non)) := fun X g Wx tk => ps_retN.imp fun D σ H h => by
  obtain ⟨ad, S, sl, R, L, h⟩ := h
  exact h _ _ _ Le.refl R .non
theorem s_if {sa sb : List Stmt} (hc : ST m T k c t sc N ow a ga) (ha : SSs m T k c t sc N ow sa f) (hb : SSs m T k c t sc N ow sb f') :
    SS m T k c t sc N ow (.If a sa sb pos) (fun sl => exT sl (ga sl) fun b => match b with | true => f sl | false => f' sl) := fun X g Wx tk => by
  refine (ps_if (hc X g Wx tk) (ha X g Wx tk) (hb X g Wx tk)).imp fun D σ H h => ?_
  obtain ⟨ad, S, sl, R, L, h⟩ := h
  refine ⟨ad, S, sl, R, L, runT_imp (run_exT L h) ?_⟩
  rintro v H1 ⟨ad1, S1, l1, R1, h1⟩
  cases v with
  | true => rw [if_pos rfl]; exact ⟨ad1, S1, sl, R1, L.mono l1, h1⟩
  | false => rw [if_neg Bool.false_ne_true]; exact ⟨ad1, S1, sl, R1, L.mono l1, h1⟩
/-- code that the proof does not come to -/
theorem s_never : SS m T k c t sc N ow st (fun _ => stuck) := fun X g Wx tk => ps_never.imp fun D σ H h => by
  obtain ⟨ad, S, sl, R, L, h⟩ := h
  exact h
/-! ### targets -/
theorem runG_mono {T : Tab} {K : PySem.W.Frag} {ad ad' : List Addr} {H H' : Hp} {r : Res Slots} {Q : St → Hp → Prop} (l : Le K ad H ad' H') (h : runG T K ad H r Q) : runG T K ad' H' r Q := by
  cases r with
  | ok sl S => exact fun a b c l' => h a b c (l.trans l')
  | ex x S => exact h
  | bad => exact h
def thenG (m : M Slots) (k : Slots → M Slots) : M Slots := fun S => match m S with
  | .ok sl S' => k sl S'
  | _ => .bad
theorem g_name (i : Nat) {x : Str} (hi : N[i]? = some x := by rfl) (hx : LocO sc ow x := by first | exact Or.inl rfl | exact Or.inr ⟨rfl, by decide +kernel⟩) : SG m T k c t sc N ow (.Name x pos) (fun w sl => ret (sl.set i (some w))) := fun X g => by
  refine (pg_name (i := i) (by rw [g.hN]; exact g.nd) (by rw [g.hN]; exact hi) (loc_of g hx) (hf_of g hx)).imp fun v σ H Q h => ?_
  obtain ⟨ad, S, sl, w, R, L, r, h⟩ := h
  exact h _ _ _ Le.refl R (L.set r i)
theorem gs_nil : SGs m T k c t sc N ow [] (fun ws sl => match ws with | [] => ret sl | _ => stuck) := fun X g => pgs_nil.imp fun vs σ H Q h => by
  obtain ⟨ad, S, sl, ws, R, L, r, h⟩ := h
  cases r with
  | nil => exact ⟨rfl, h _ _ _ Le.refl R L⟩
  | cons _ _ => exact h.elim
theorem gs_cons {es : List Expr} {g1 : W → Slots → M Slots} {g2 : List W → Slots → M Slots} (h1 : SG m T k c t sc N ow e g1) (h2 : SGs m T k c t sc N ow es g2) (hs : ∀ env, (assignEach (e :: es) env).map (·.2) = assign e env :: (assignEach es env).map (·.2) := by intro _; rfl) :
    SGs m T k c t sc N ow (e :: es) (fun ws sl => match ws with | [] => stuck | w :: r => thenG (g1 w sl) (g2 r)) := fun X g => by
  refine (pgs_cons (h1 X g) (h2 X g) (hs _)).imp fun vs σ H Q h => ?_
  obtain ⟨ad, S, sl, ws, R, L, r, h⟩ := h
  cases r with
  | nil => exact h.elim
  | @cons w v ws' vs' r rr =>
    refine ⟨v, vs', rfl, ad, S, sl, w, R, L, r, ?_⟩
    have h : runG T m.K ad H (thenG (g1 w sl) (g2 ws') S) Q := h
    unfold thenG at h
    cases q : g1 w sl S with
    | ok sl1 S1 => rw [q] at h; exact fun ad' H' σ' l R' L' => ⟨ad', S1, sl1, ws', R', L', rr.mono l, runG_mono l h⟩
    | ex x S => rw [q] at h; exact h
    | bad => rw [q] at h; exact h
/-- a tuple, a list unpacked -/
def unpM (n : Nat) (gs : List W → Slots → M Slots) : W → Slots → M Slots := fun w sl S => match w with
  | .tup ws => if ws.length = n then gs ws sl S else .bad
  | .ref i => match seqOf S i with
    | some ws => if ws.length = n then gs ws sl S else .bad
    | none => .bad
  | _ => .bad
theorem g_tup {es : List Expr} {j n : Nat} {gs : List W → Slots → M Slots} (hc : c = true) (h : SGs m T k c t sc N ow es gs) (hn : ∀ env, (assignEach es env).length = n := by intro _; rfl) (hst : ∀ env, (assignEach es env).findIdx? (·.1) = none := by intro _; rfl) :
    SG m T k c t sc N ow (.Tuple es j pos) (unpM n gs) := fun X g => by
  have h1 := pg_tup (pos := pos) (k := j) (g.calm hc) (h X g) (hn _) (hst _)
  have h2 := pg_unl (pos := pos) (k := j) (g.calm hc) (h X g) (hn _) (hst _)
  refine ⟨fun pins s σ H v u Q I ru hh => ?_⟩
  obtain ⟨ad, S, sl, w, R, L, r, hh⟩ := hh
  have ek : X.K = m.K := by rw [← g.mo]; rfl
  unfold unpM at hh
  split at hh
  · split at hh
    · cases r with
      | tup s1 r1 => exact h1.run pins s σ H _ u Q I ru ⟨_, _, rfl, by rw [ek]; exact s1, by rw [← r1.length]; assumption, ad, S, sl, _, R, L, r1, hh⟩
    · exact hh.elim
  · split at hh
    · rename_i ws hs
      split at hh
      · cases r with
        | ref e =>
        obtain ⟨vs, q, r1⟩ := R.seq e hs
        exact h2.run pins s σ H _ u Q I ru ⟨_, _, rfl, by rw [ek]; exact q, by rw [← r1.length]; assumption, ad, S, sl, _, R, L, r1, hh⟩
      · exact hh.elim
    · exact hh.elim
  · exact hh.elim
/-! ### assignments -/
def asgM (g : M Slots) : M Fl := fun S => match g S with
  | .ok sl S' => .ok (.nx sl) S'
  | _ => .bad
theorem runS_asg {T : Tab} {K : PySem.W.Frag} {ad : List Addr} {H : Hp} {S : Sto} {g : M Slots} {D : Ends} {Wx : WX} (h : runS T K ad H (asgM g S) D Wx) : runG T K ad H (g S) D.nx := by
  unfold asgM at h
  cases q : g S with
  | ok sl S1 => rw [q] at h; exact h
  | ex x S => rw [q] at h; exact h
  | bad => rw [q] at h; exact h
theorem s_asg {tg : Expr} {g1 : W → Slots → M Slots} (he : SE m T k c t sc N ow e fe) (hg : SG m T k c t sc N ow tg g1) (hs : ∀ X, Good m k c t sc N ow X → swapsWithSole [tg] e pos.line X.env = pure false := by intro _ _; rfl) (hw : ∀ X, Good m k c t sc N ow X → swappedStores [tg] e X.env = pure none := by intro _ _; rfl)
    (h1 : ∀ env, (assignEach [tg] env).map (·.2) = [assign tg env] := by intro _; rfl) : SS m T k c t sc N ow (.Assign [tg] e pos) (fun sl => exS sl (fe sl) fun w => asgM (g1 w sl)) := fun X g Wx tk => by
  refine (ps_asg (he X g Wx tk) (hg X g) (hs X g) (hw X g) (h1 _)).imp fun D σ H h => ?_
  obtain ⟨ad, S, sl, R, L, h⟩ := h
  refine ⟨ad, S, sl, R, L, run_imp (run_exS L h) ?_⟩
  rintro v H1 ⟨ad1, S1, w1, l1, R1, r1, h1⟩
  exact ⟨ad1, S1, sl, w1, R1, L.mono l1, r1, runS_asg h1⟩
/-- name = value -/
theorem s_set (i : Nat) {x : Str} {p' : Pos} (he : SE m T k c t sc N ow e fe) (hi : N[i]? = some x := by rfl) (hx : LocO sc ow x := by first | exact Or.inl rfl | exact Or.inr ⟨rfl, by decide +kernel⟩) (hs : ∀ X, Good m k c t sc N ow X → swapsWith e (some (.Name x p')) pos.line X.env = pure false := by intro _ _; rfl) :
    SS m T k c t sc N ow (.Assign [.Name x p'] e pos) (fun sl => exS sl (fe sl) fun w => ret (.nx (sl.set i (some w)))) := fun X g Wx tk => by
  refine (ps_set (i := i) (by rw [g.hN]; exact g.nd) (by rw [g.hN]; exact hi) (loc_of g hx) (he X g Wx tk) (hs X g) (hf_of g hx)).imp fun D σ H h => ?_
  obtain ⟨ad, S, sl, R, L, h⟩ := h
  refine ⟨ad, S, sl, R, L, run_imp (run_exS L h) ?_⟩
  rintro v H1 ⟨ad1, S1, w1, l1, R1, r1, h1⟩
  exact runS_nx R1 ((L.mono l1).set r1 i) h1
/-- a, b = x, y (local names) -/
def parM (is : List Nat) (sl : Slots) (ws : List W) : Slots := (is.zip ws).foldl (fun sl p => sl.set p.1 (some p.2)) sl
theorem s_par2 {x y : Str} {fs : Slots → M (List W)} {px py pt pt2 : Pos} {kt k2 : Nat} (i j : Nat) (hc : c = true) (ha : SA m T k c t sc N ow [a, b] fs) (hi : N[i]? = some x := by rfl) (hj : N[j]? = some y := by rfl) (hij : i ≠ j := by decide)
    (hx : sc.names.lookup x = some .local := by rfl) (hy : sc.names.lookup y = some .local := by rfl)
    (hw : ∀ X, Good m k c t sc N ow X → swappedStores [.Tuple [.Name x px, .Name y py] kt pt] (.Tuple [a, b] k2 pt2) X.env = pure (some [x, y])) :
    SS m T k c t sc N ow (.Assign [.Tuple [.Name x px, .Name y py] kt pt] (.Tuple [a, b] k2 pt2) pos) (fun sl => exA sl (fs sl) fun ws S => if ws.length = 2 then .ok (.nx (parM [i, j] sl ws)) S else .bad) := fun X g Wx tk => by
  refine (ps_par (g.calm hc) (by rw [g.hN]; exact g.nd) (by rw [g.hN]; exact hi) (by rw [g.hN]; exact hj) hij (by rw [g.hsc]; exact hx) (by rw [g.hsc]; exact hy) (ha X g Wx tk) (hw X g)).imp fun D σ H h => ?_
  obtain ⟨ad, S, sl, R, L, h⟩ := h
  refine ⟨ad, S, sl, R, L, runA_imp (run_exA L h) ?_⟩
  rintro vs H1 ⟨ad1, S1, ws, l1, R1, r1, h1⟩
  split at h1
  · rename_i hl
    match ws, hl, r1 with
    | [w1, w2], _, .cons (v := v1) r1 (.cons (v := v2) r2 .nil) =>
      exact ⟨v1, v2, rfl, runS_nx R1 (((L.mono l1).set r1 i).set r2 j) h1⟩
  · exact h1.elim
end
end RP

/-! RpF: what is walked, for, while, list comprehensions. -/
namespace RP
open PySem L2

/-- what is walked: its items by the state -/
abbrev View := Sto → Option (List W)
def RelIt (T : Tab) (K : PySem.W.Frag) (ad0 : List Addr) (H0 : Hp) (v : View) (J : It) : Prop := ∀ ad H S, Up K ad0 H0 ad H → Rel T K ad H S → ∀ ws, v S = some ws → ∀ n,
  (n < ws.length → J.go n H) ∧ (ws.length ≤ n → J.stop n H) ∧ ∀ x H', J.yld n H x H' → ∀ w, ws[n]? = some w → Same H H' ∧ RelW K ad H' w x
def runI (T : Tab) (K : PySem.W.Frag) (ad : List Addr) (H : Hp) (r : Res View) (R : It → Hp → Prop) (E : XK) : Prop := match r with
  | .ok v S => ∀ ad' H' J, Le K ad H ad' H' → Rel T K ad' H' S → RelIt T K ad' H' v J → R J H'
  | .ex x S => ∀ ad' H' cls d, Le K ad H ad' H' → Rel T K ad' H' S → RelX T K ad' H' x cls d → E cls d H'
  | .bad => False
def rdI (T : Tab) (K : PySem.W.Frag) (f : Slots → M View) (Wx : WX) : TI := fun σ H R => ∃ ad S sl, Rel T K ad H S ∧ RelSl K ad H sl σ ∧ runI T K ad H (f sl S) R fun c d H' => Wx c d σ H'
def SIt (m : Mo) (T : Tab) (k : Nat) (c t : Bool) (sc : Scope) (N : List Str) (ow : Ow) (tg iter : Expr) (f : Slots → M View) : Prop := ∀ X, Good m k c t sc N ow X → ∀ Wx, Takes X Wx → PI X tg iter (rdI T m.K f Wx)
/-- the loop: n the turn, by fuel -/
def forM (v : View) (g : W → Slots → M Slots) (body : Slots → M Fl) : Nat → Nat → Slots → M Fl
  | 0, _, _ => stuck
  | f + 1, n, sl => fun S => match v S with
    | none => .bad
    | some ws => match ws[n]? with
      | none => .ok (.nx sl) S
      | some w => match g w sl S with
        | .ok sl1 S1 => match body sl1 S1 with
          | .ok (.nx sl2) S2 => forM v g body f (n + 1) sl2 S2
          | .ok (.ct sl2) S2 => forM v g body f (n + 1) sl2 S2
          | .ok (.bk sl2) S2 => .ok (.nx sl2) S2
          | r => r
        | _ => .bad
def forV (v : View) (g : W → Slots → M Slots) (body : Slots → M Fl) (sl : Slots) : M Fl := fun S => match v S with
  | none => .bad
  | some ws => forM v g body (ws.length + 1) 0 sl S
def exI (sl : Slots) (m : M View) (k : View → M Fl) : M Fl := fun S => match m S with
  | .ok v S' => k v S'
  | .ex x S' => .ok (.xx x sl) S'
  | .bad => .bad
section
variable {m : Mo} {T : Tab} {k : Nat} {c t : Bool} {sc : Scope} {N : List Str} {ow : Ow} {a b e : Expr} {fa fb fe : Slots → M W} {ga gb : Slots → M Bool} {pos : Pos} {st : Stmt} {sts : List Stmt} {f f' : Slots → M Fl}
theorem run_exI {K : PySem.W.Frag} {ad : List Addr} {H : Hp} {S : Sto} {sl : Slots} {σ : St} {D : Ends} {Wx : WX} {f : M View} {g : View → M Fl} (L : RelSl K ad H sl σ) (h : runS T K ad H (exI sl f g S) D Wx) :
    runI T K ad H (f S) (fun J H1 => ∃ ad1 S1 v, Le K ad H ad1 H1 ∧ Rel T K ad1 H1 S1 ∧ RelIt T K ad1 H1 v J ∧ runS T K ad1 H1 (g v S1) D Wx) fun c d H' => Wx c d σ H' := by
  unfold exI at h
  cases q : f S with
  | ok w S1 => rw [q] at h; exact fun a b c l R r => ⟨a, S1, w, l, R, r, runS_mono l h⟩
  | ex x S => rw [q] at h; exact fun a b c d l R r => h a b c d σ l R r (L.mono l)
  | bad => rw [q] at h; exact h
theorem runI_imp {K : PySem.W.Frag} {ad : List Addr} {H : Hp} {r : Res View} {Q Q' : It → Hp → Prop} {E : XK} (h : runI T K ad H r Q E) (q : ∀ v H, Q v H → Q' v H) : runI T K ad H r Q' E := by
  cases r with
  | ok w S => exact fun a b c l' R r => q _ _ (h a b c l' R r)
  | ex x S => exact h
  | bad => exact h
theorem s_for {tg iter : Expr} {fi : Slots → M View} {g1 : W → Slots → M Slots} (hc : c = true) (hi : SIt m T k c t sc N ow tg iter fi) (hg : SG m T k c t sc N ow tg g1) (hb : SSs m T k c t sc N ow sts f)
    (hs : ∀ env x, foldedSetIterable iter env x = pure x := by intro _ _; rfl) : SS m T k c t sc N ow (.For tg iter sts [] pos) (fun sl => exI sl (fi sl) fun v => forV v g1 f sl) := fun X g Wx tk => by
  refine (ps_for g.own (g.calm hc) (hi X g Wx tk) (hg X g) (hb X g Wx tk) (hs _)).imp fun D σ H h => ?_
  obtain ⟨ad, S, sl, R, L, h⟩ := h
  refine ⟨ad, S, sl, R, L, runI_imp (run_exI L h) ?_⟩
  rintro J H1 ⟨ad1, S1, v, l1, R1, r1, h1⟩
  unfold forV at h1
  split at h1
  · exact h1.elim
  · rename_i ws0 e0
    refine ⟨fun i n σ H => ∃ ad2 S2 sl2, Le m.K ad1 H1 ad2 H ∧ Rel T m.K ad2 H S2 ∧ RelSl m.K ad2 H sl2 σ ∧ runS T m.K ad2 H (forM v g1 f n i sl2 S2) D Wx, ⟨_, ad1, S1, sl, Le.refl, R1, L.mono l1, h1⟩, ?_⟩
    rintro i n σ2 H2 ⟨ad2, S2, sl2, l2, R2, L2, h2⟩
    cases n with
    | zero => exact h2.elim
    | succ n =>
      unfold forM at h2
      split at h2
      · exact h2.elim
      · rename_i ws e
        obtain ⟨go, stop, yld⟩ := r1 ad2 H2 S2 l2.up R2 ws e i
        split at h2
        · rename_i hn
          exact .inl ⟨stop (List.getElem?_eq_none_iff.mp hn), runS_nx R2 L2 h2⟩
        · rename_i w hw
          refine .inr ⟨go (List.getElem?_eq_some_iff.mp hw).1, fun σ H => ∃ ad2 S2 sl2, Le m.K ad1 H1 ad2 H ∧ Rel T m.K ad2 H S2 ∧ RelSl m.K ad2 H sl2 σ ∧ runS T m.K ad2 H (forM v g1 f n (i + 1) sl2 S2) D Wx, fun σ' H' hN => ⟨n, Nat.lt_succ_self n, hN⟩, fun x H3 y => ?_⟩
          obtain ⟨sm, rx⟩ := yld x H3 y w hw
          have l3 : Le m.K ad2 H2 ad2 H3 := Le.same0 sm
          refine ⟨ad2, S2, sl2, w, R2.same sm, L2.mono l3, rx, ?_⟩
          cases q : g1 w sl2 S2 with
          | ok sl4 S4 =>
            rw [q] at h2
            dsimp only at h2
            intro ad5 H5 σ5 l5 R5 L5
            refine ⟨ad5, S4, sl4, R5, L5, ?_⟩
            cases q2 : f sl4 S4 with
            | ok fl S6 =>
              rw [q2] at h2
              have l6 := (l2.trans l3).trans l5
              cases fl with
              | nx sl6 => exact fun ad7 H7 σ7 l7 R7 L7 => ⟨ad7, S6, sl6, l6.trans l7, R7, L7, runS_mono ((l3.trans l5).trans l7) h2⟩
              | ct sl6 => exact fun ad7 H7 σ7 l7 R7 L7 => ⟨ad7, S6, sl6, l6.trans l7, R7, L7, runS_mono ((l3.trans l5).trans l7) h2⟩
              | bk sl6 => exact fun ad7 H7 σ7 l7 R7 L7 => h2 _ _ _ ((l3.trans l5).trans l7) R7 L7
              | rt w => exact fun ad7 H7 σ7 l7 R7 L7 => h2 _ _ _ ((l3.trans l5).trans l7) R7 L7
              | xx x s => exact fun ad7 H7 cl d σ7 l7 R7 x7 L7 => h2 _ _ _ _ _ ((l3.trans l5).trans l7) R7 x7 L7
            | ex x S => rw [q2] at h2; exact h2
            | bad => rw [q2] at h2; exact h2
          | ex x S => rw [q] at h2; exact h2
          | bad => rw [q] at h2; exact h2
/-! ### while -/
def whileM (c : Slots → M Bool) (body : Slots → M Fl) : Nat → Slots → M Fl
  | 0, _ => stuck
  | f + 1, sl => exT sl (c sl) fun b => match b with
    | false => ret (.nx sl)
    | true => fun S => match body sl S with
      | .ok (.nx sl2) S2 => whileM c body f sl2 S2
      | .ok (.ct sl2) S2 => whileM c body f sl2 S2
      | .ok (.bk sl2) S2 => .ok (.nx sl2) S2
      | r => r
theorem s_while (fuel : Nat) (hc : ST m T k c t sc N ow a ga) (hb : SSs m T k c t sc N ow sts f) : SS m T k c t sc N ow (.While a sts [] pos) (whileM ga f fuel) := fun X g Wx tk => by
  refine (ps_while g.own (hc X g Wx tk) (hb X g Wx tk)).imp fun D σ H h => ?_
  obtain ⟨ad, S, sl, R, L, h⟩ := h
  refine ⟨fun n σ H => ∃ ad2 S2 sl2, Rel T m.K ad2 H S2 ∧ RelSl m.K ad2 H sl2 σ ∧ runS T m.K ad2 H (whileM ga f n sl2 S2) D Wx, ⟨fuel, ad, S, sl, R, L, h⟩, ?_⟩
  rintro n σ2 H2 ⟨ad2, S2, sl2, R2, L2, h2⟩
  cases n with
  | zero => exact h2.elim
  | succ n =>
    unfold whileM at h2
    refine ⟨ad2, S2, sl2, R2, L2, runT_imp (run_exT L2 h2) ?_⟩
    rintro b H3 ⟨ad3, S3, l3, R3, h3⟩
    cases b with
    | false => rw [if_neg Bool.false_ne_true]; exact runS_nx R3 (L2.mono l3) h3
    | true =>
      rw [if_pos rfl]
      refine ⟨fun σ H => ∃ ad2 S2 sl2, Rel T m.K ad2 H S2 ∧ RelSl m.K ad2 H sl2 σ ∧ runS T m.K ad2 H (whileM ga f n sl2 S2) D Wx, fun σ' H' hN => ⟨n, Nat.lt_succ_self n, hN⟩, ad3, S3, sl2, R3, L2.mono l3, ?_⟩
      dsimp only at h3
      cases q2 : f sl2 S3 with
      | ok fl S6 =>
        rw [q2] at h3
        cases fl with
        | nx sl6 => exact fun ad7 H7 σ7 l7 R7 L7 => ⟨ad7, S6, sl6, R7, L7, runS_mono l7 h3⟩
        | ct sl6 => exact fun ad7 H7 σ7 l7 R7 L7 => ⟨ad7, S6, sl6, R7, L7, runS_mono l7 h3⟩
        | bk sl6 => exact h3
        | rt w => exact h3
        | xx x s => exact h3
      | ex x S => rw [q2] at h3; exact h3
      | bad => rw [q2] at h3; exact h3
end
end RP

/-! RpG: list comprehensions. -/
namespace RP
open PySem L2

/-- several names take values -/
def setAll (sl : Slots) (is : List Nat) (ws : List W) : Slots := (is.zip ws).foldl (fun sl p => sl.set p.1 (some p.2)) sl
def setAllV (σ : St) (is : List Nat) (vs : List V) : St := (is.zip vs).foldl (fun σ p => σ.set p.1 (some p.2)) σ
def gNames (is : List Nat) : TGs := fun vs σ H Q => vs.length = is.length ∧ Q (setAllV σ is vs) H
theorem RelSl.setAll {K : PySem.W.Frag} {ad : List Addr} {H : Hp} : ∀ {is : List Nat} {ws : List W} {vs : List V} {sl : Slots} {σ : St}, RelSl K ad H sl σ → RelWs K ad H ws vs → RelSl K ad H (setAll sl is ws) (setAllV σ is vs)
  | [], _, _, _, _, L, _ => L
  | i :: is, _, _, _, _, L, .nil => L
  | i :: is, _, _, _, _, L, .cons r rr => RelSl.setAll (is := is) (L.set r i) rr
def wipeS (sl : Slots) : List Nat → Slots
  | [] => sl
  | v :: vs => (wipeS sl vs).set v none
theorem RelSl.wipe {K : PySem.W.Frag} {ad : List Addr} {H : Hp} {sl : Slots} {σ : St} (L : RelSl K ad H sl σ) : ∀ vs : List Nat, RelSl K ad H (wipeS sl vs) (L2.wipe σ vs)
  | [] => L
  | v :: vs => (RelSl.wipe L vs).clear v
theorem wipe_set {x : Option V} : ∀ {vs : List Nat} {i : Nat} (σ : St), i ∈ vs → L2.wipe (σ.set i x) vs = L2.wipe σ vs
  | v :: vs, i, σ, h => by
    unfold L2.wipe
    by_cases e : i ∈ vs
    · rw [wipe_set σ e]
    · have hi : i = v := by
        rcases List.mem_cons.mp h with h | h
        · exact h
        · exact absurd h e
      subst hi
      clear h
      have key : ∀ (vs : List Nat) (τ : St), i ∉ vs → (L2.wipe (τ.set i x) vs) = (L2.wipe τ vs).set i x := by
        intro vs
        induction vs with
        | nil => intro τ _; rfl
        | cons w ws ih =>
          intro τ hn
          unfold L2.wipe
          rw [ih τ (fun z => hn (List.mem_cons_of_mem _ z)), List.set_comm _ _ (fun z => hn (by rw [z]; exact List.mem_cons_self))]
      rw [key vs σ e, List.set_set]
theorem wipe_wipe : ∀ (σ : St) (vs : List Nat), L2.wipe (L2.wipe σ vs) vs = L2.wipe σ vs := by
  intro σ vs
  have key : ∀ (ws us : List Nat) (τ : St), (∀ i ∈ ws, i ∈ us) → L2.wipe (L2.wipe τ ws) us = L2.wipe τ us := by
    intro ws
    induction ws with
    | nil => intro us τ _; rfl
    | cons w ws ih =>
      intro us τ h
      show L2.wipe ((L2.wipe τ ws).set w none) us = _
      rw [wipe_set _ (h w List.mem_cons_self), ih us τ fun i hi => h i (List.mem_cons_of_mem _ hi)]
  exact key vs vs σ fun _ h => h
theorem wipe_setAll {vs : List Nat} : ∀ {is : List Nat} {xs : List V} (σ : St), (∀ i ∈ is, i ∈ vs) → L2.wipe (setAllV σ is xs) vs = L2.wipe σ vs
  | [], _, _, _ => rfl
  | i :: is, [], _, _ => rfl
  | i :: is, x :: xs, σ, h => by
    show L2.wipe (setAllV (σ.set i (some x)) is xs) vs = _
    rw [wipe_setAll (is := is) (xs := xs) _ (fun j hj => h j (List.mem_cons_of_mem _ hj)), wipe_set σ (h i List.mem_cons_self)]

/-- the loop of a comprehension -/
def lcM (v : View) (g : W → Slots → M Slots) (test : Slots → M Bool) (elt : Slots → M W) (sl0 : Slots) : Nat → Nat → List W → M (List W)
  | 0, _, _ => stuck
  | f + 1, n, acc => fun S => match v S with
    | none => .bad
    | some ws => match ws[n]? with
      | none => .ok acc S
      | some w => match g w sl0 S with
        | .ok sl1 S1 => match test sl1 S1 with
          | .ok false S2 => lcM v g test elt sl0 f (n + 1) acc S2
          | .ok true S2 => match elt sl1 S2 with
            | .ok y S3 => if acc.length < sizeLine then lcM v g test elt sl0 f (n + 1) (acc ++ [y]) S3 else .bad
            | _ => .bad
          | _ => .bad
        | _ => .bad
def lcV (v : View) (g : W → Slots → M Slots) (test : Slots → M Bool) (elt : Slots → M W) (sl0 : Slots) : M W := fun S => match v S with
  | none => .bad
  | some ws => match lcM v g test elt sl0 (ws.length + 1) 0 [] S with
    | .ok acc S' => .ok (.ref S'.length) (S' ++ [.lst acc])
    | _ => .bad
def bdI (m : M View) (k : View → M W) : M W := fun S => match m S with
  | .ok v S' => k v S'
  | .ex x S' => .ex x S'
  | .bad => .bad
/-- the target of a comprehension: one name, or a tuple of names -/
inductive Tgt where
  | one (i : Nat) | many (is : List Nat)
def Tgt.ix : Tgt → List Nat
  | .one i => [i]
  | .many is => is
def Tgt.g : Tgt → W → Slots → M Slots
  | .one i => fun w sl => ret (sl.set i (some w))
  | .many is => fun w sl S => match w with
    | .tup ws => if ws.length = is.length then .ok (setAll sl is ws) S else .bad
    | _ => .bad
def Tgt.t (K : PySem.W.Frag) : Tgt → TG
  | .one i => gName i
  | .many is => gTup K is.length (gNames is)
def STg (m : Mo) (T : Tab) (k : Nat) (c t : Bool) (sc : Scope) (N : List Str) (ow : Ow) (tg : Expr) (g : Tgt) : Prop := ∀ X, Good m k c t sc N ow X → PG X tg (g.t m.K)

section
variable {m : Mo} {T : Tab} {k : Nat} {c t : Bool} {sc : Scope} {N : List Str} {ow : Ow} {pos : Pos}
theorem tg_one (i : Nat) {x : Str} (hi : N[i]? = some x := by rfl) (hx : LocO sc ow x := by first | exact Or.inl rfl | exact Or.inr ⟨rfl, by decide +kernel⟩) : STg m T k c t sc N ow (.Name x pos) (.one i) := fun X g =>
  pg_name (i := i) (by rw [g.hN]; exact g.nd) (by rw [g.hN]; exact hi) (loc_of g hx) (hf_of g hx)
/-- the names of a tuple target -/
structure NamesAt (sc : Scope) (N : List Str) (ow : Ow) (xs : List Str) (is : List Nat) : Prop where
  len : xs.length = is.length
  at_ : ∀ (j : Nat) (x : Str) (i : Nat), xs[j]? = some x → is[j]? = some i → N[i]? = some x ∧ LocO sc ow x
theorem pgs_names {X : Cx} (g : Good m k c t sc N ow X) : ∀ (es : List Expr) (xs : List Str) (ps : List Pos) (is : List Nat), es = (xs.zip ps).map (fun p => Expr.Name p.1 p.2) → xs.length = ps.length → NamesAt sc N ow xs is →
    (∀ (y : Str) (q : Pos) (es' : List Expr), (assignEach (.Name y q :: es') X.env).map (·.2) = assign (.Name y q) X.env :: (assignEach es' X.env).map (·.2)) → PGs X es (gNames is)
  | es, [], ps, is, he, hl, hn, ha => by
    have : is = [] := List.eq_nil_of_length_eq_zero (by rw [← hn.len]; rfl)
    subst this
    subst he
    exact pgs_nil.imp fun vs σ H Q h => by
      obtain ⟨h1, h2⟩ := h
      have : vs = [] := List.eq_nil_of_length_eq_zero h1
      subst this
      exact ⟨rfl, h2⟩
  | es, x :: xs, [], is, he, hl, hn, ha => by simp at hl
  | es, x :: xs, p :: ps, [], he, hl, hn, ha => by have := hn.len; simp at this
  | es, x :: xs, p :: ps, i :: is, he, hl, hn, ha => by
    subst he
    have h0 := hn.at_ 0 x i rfl rfl
    have h1 : PG X (.Name x p) (gName i) := pg_name (i := i) (by rw [g.hN]; exact g.nd) (by rw [g.hN]; exact h0.1) (loc_of g h0.2) (hf_of g h0.2)
    have h2 := pgs_names g ((xs.zip ps).map (fun p => Expr.Name p.1 p.2)) xs ps is rfl (by simpa using hl) ⟨by simpa using hn.len, fun j x i a b => hn.at_ (j + 1) x i (by simpa using a) (by simpa using b)⟩ ha
    refine (pgs_cons h1 h2 (ha _ _ _)).imp fun vs σ H Q h => ?_
    obtain ⟨hq, h⟩ := h
    match vs, hq with
    | v :: vs, hq => exact ⟨v, vs, rfl, by simpa using hq, h⟩
theorem tg_many {es : List Expr} {j : Nat} (xs : List Str) (ps : List Pos) (is : List Nat) (hc : c = true) (he : es = (xs.zip ps).map (fun p => Expr.Name p.1 p.2) := by rfl) (hl : xs.length = ps.length := by rfl) (hn : NamesAt sc N ow xs is)
    (ha : ∀ env (y : Str) (q : Pos) (es' : List Expr), (assignEach (.Name y q :: es') env).map (·.2) = assign (.Name y q) env :: (assignEach es' env).map (·.2) := by intro _ _ _ _; rfl)
    (hn2 : ∀ env, (assignEach es env).length = is.length := by intro _; rfl) (hst : ∀ env, (assignEach es env).findIdx? (·.1) = none := by intro _; rfl) : STg m T k c t sc N ow (.Tuple es j pos) (.many is) := fun X g => by
  have ek : X.K = m.K := by rw [← g.mo]; rfl
  show PG X _ (gTup m.K is.length (gNames is))
  rw [← ek]
  exact pg_tup (g.calm hc) (pgs_names g es xs ps is he hl hn (ha _)) (hn2 _) (hst _)
/-- a target's exact reading -/
theorem tgt_run {K : PySem.W.Frag} {ad : List Addr} {H : Hp} {S S1 : Sto} {g : Tgt} {w : W} {x : V} {sl sl1 : Slots} {σ : St} {Q : St → Hp → Prop} (R : Rel T K ad H S) (L : RelSl K ad H sl σ) (r : RelW K ad H w x) (e : g.g w sl S = .ok sl1 S1)
    (h : ∀ σ1, S1 = S → RelSl K ad H sl1 σ1 → (∀ vs, (∀ i ∈ g.ix, i ∈ vs) → L2.wipe σ1 vs = L2.wipe σ vs) → Q σ1 H) : g.t K x σ H Q := by
  cases g with
  | one i =>
    cases e
    exact h _ rfl (L.set r i) fun vs hi => wipe_set σ (hi i List.mem_cons_self)
  | many is =>
    unfold Tgt.g at e
    dsimp only at e
    split at e
    · split at e
      · rename_i hl
        cases e
        cases r with
        | tup s1 r1 => exact ⟨_, _, rfl, s1, by rw [← r1.length]; exact hl, by rw [← r1.length]; exact hl, h _ rfl (L.setAll r1) fun vs hi => wipe_setAll σ hi⟩
      · cases e
    · cases e
end

/-! ### the block's context -/
theorem takes_blk {X : Cx} {s : Shared} {H : Hp} {scope : Scope} {cenv : Env} {fp : List Addr} : Takes (X.blk s H scope cenv fp) (fun _ _ _ _ => False) := fun u s' ⟨_, _, _, _, _, _, _, _, _, _, _, _, _, _, _, _, w⟩ => w
def cellsOf (scope : Scope) : List Str := (scope.names.filter fun y => match y.2 with | .cell => true | _ => false).map (·.1)
section
variable {m : Mo} {T : Tab} {k : Nat} {c t : Bool} {sc scope : Scope} {N : List Str} {ow : Ow} {pos : Pos} {X : Cx}
theorem good_blk (g : Good m k c t sc N ow X) (uq : ∀ y ∈ scope.names, scope.names.lookup y.1 = some y.2) (s : Shared) (H : Hp) (C : Addr) (cl : List (Str × Addr)) (fp : List Addr) :
    Good m k c false (relS scope sc) N (ow0 (cellsOf scope)) (X.blk s H scope (compEnvC scope cl C X.env) fp) where
  mo := by rw [← g.mo]; rfl
  hsc := by
    show relabel scope X.env = _
    rw [← g.hsc]
    rfl
  hN := g.hN
  nd := g.nd
  calm := g.calm
  room := g.room
  un := g.un
  own := PassesOwn.never
  fn := fun x hx => by
    obtain ⟨y, hy, e⟩ := List.mem_map.mp hx
    obtain ⟨h1, h2⟩ := List.mem_filter.mp hy
    have q := uq y h1
    show (scope.names.lookup x == some NameKind.cell) = true
    rw [← e, q]
    revert h2
    cases y.2 <;> simp
  xi := trivial
  top := fun z => by cases z
end
section
variable {m : Mo} {T : Tab} {k : Nat} {c t : Bool} {sc scope : Scope} {N : List Str} {ow : Ow} {pos : Pos} {elt tg iter : Expr} {ifs : List Expr} {fi : Slots → M View} {gt : Tgt} {ft : Slots → M Bool} {fe : Slots → M W}
/-- the tests of a clause -/
def STs (m : Mo) (T : Tab) (k : Nat) (c t : Bool) (sc : Scope) (N : List Str) (ow : Ow) (ifs : List Expr) (f : Slots → M Bool) : Prop := ∀ X, Good m k c t sc N ow X → ∀ Wx, Takes X Wx → PTs X ifs (rdT T m.K f Wx)
theorem ts_nil : STs m T k c t sc N ow [] (fun _ => ret true) := fun X g Wx tk => ⟨fun pins s σ H Q I h => pts_nil.run pins s σ H Q I (by
  obtain ⟨ad, S, sl, R, L, h⟩ := h
  exact h _ _ Le.refl R)⟩
theorem ts_one {e : Expr} (h : ST m T k c t sc N ow e ft) : STs m T k c t sc N ow [e] ft := fun X g Wx tk => pts_one (h X g Wx tk)
theorem lc_run {K : PySem.W.Frag} {ad : List Addr} {H : Hp} {S : Sto} {sl : Slots} {σ : St} {Q : VK} {E : XK} {J : It} {v : View} {own : List Nat} (R : Rel T K ad H S) (L : RelSl K ad H sl σ) (rJ : RelIt T K ad H v J) (hix : ∀ i ∈ gt.ix, i ∈ own)
    (h : run T K ad H (lcV v gt.g ft fe (wipeS sl own) S) Q E) : ∀ D, H D = none → ∃ Wv : Nat → Nat → Hp → Prop, (∃ m, Wv 0 m (upd H D (.lst []))) ∧ ∀ i m H, Wv i m H →
  (J.stop i H ∧ Q (.ref D) H) ∨ (J.go i H ∧ ∃ Nx : Hp → Prop, (∀ H', Nx H' → ∃ m', m' < m ∧ Wv (i + 1) m' H') ∧ ∀ x H', J.yld i H x H' → gt.t K x (L2.wipe σ own) H' fun σ2 H2 => L2.wipe σ2 own = L2.wipe σ own ∧ rdT T K ft (fun _ _ _ _ => False) σ2 H2 fun b H3 =>
    if b = true then rd T K fe (fun _ _ _ _ => False) σ2 H3 fun y H4 => ∃ acc, H4 D = some (.lst acc) ∧ acc.length < sizeLine ∧ Nx (upd H4 D (.lst (acc ++ [y]))) else Nx H3) := by
  intro D hD
  unfold lcV at h
  split at h
  · exact h.elim
  · rename_i ws0 e0
    generalize hf : ws0.length + 1 = fuel at h
    refine ⟨fun i n H1 => ∃ ad1 S1 acc vs, Le K ad H ad1 H1 ∧ D ∉ ad1 ∧ Rel T K ad1 H1 S1 ∧ H1 D = some (.lst vs) ∧ RelWs K ad1 H1 acc vs ∧
      run T K ad H (match lcM v gt.g ft fe (wipeS sl own) n i acc S1 with | .ok acc S' => .ok (.ref S'.length) (S' ++ [.lst acc]) | _ => .bad) Q E, ?_, ?_⟩
    · exact ⟨fuel, ad, S, [], [], Le.same0 (same_new hD), R.new hD, R.same (same_new hD), upd_same, .nil, h⟩
    · rintro i n H1 ⟨ad1, S1, acc, vs, l1, hd1, R1, eD, ra, h1⟩
      cases n with
      | zero => exact h1.elim
      | succ n =>
        unfold lcM at h1
        cases ev : v S1 with
        | none => rw [ev] at h1; exact h1.elim
        | some ws =>
          rw [ev] at h1
          dsimp only at h1
          obtain ⟨go, stop, yld⟩ := rJ ad1 H1 S1 l1.up R1 ws ev i
          cases ew : ws[i]? with
          | none =>
            rw [ew] at h1
            refine .inl ⟨stop (List.getElem?_eq_none_iff.mp ew), ?_⟩
            refine h1 (ad1 ++ [D]) H1 (.ref D) (l1.take hD fun p z => by rw [eD] at z; cases z) (R1.take hd1 eD ra) (.ref (by rw [← R1.len]; simp))
          | some w =>
            rw [ew] at h1
            dsimp only at h1
            refine .inr ⟨go (List.getElem?_eq_some_iff.mp ew).1, fun H' => ∃ ad1 S1 acc vs, Le K ad H ad1 H' ∧ D ∉ ad1 ∧ Rel T K ad1 H' S1 ∧ H' D = some (.lst vs) ∧ RelWs K ad1 H' acc vs ∧
              run T K ad H (match lcM v gt.g ft fe (wipeS sl own) n (i + 1) acc S1 with | .ok acc S' => .ok (.ref S'.length) (S' ++ [.lst acc]) | _ => .bad) Q E, fun H' hN => ⟨n, Nat.lt_succ_self n, hN⟩, fun x H2 y => ?_⟩
            obtain ⟨sm, rx⟩ := yld x H2 y w ew
            have l2 : Le K ad1 H1 ad1 H2 := Le.same0 sm
            have R2 := R1.same sm
            cases eg : gt.g w (wipeS sl own) S1 with
            | ok sl2 S2 =>
              rw [eg] at h1
              dsimp only at h1
              refine tgt_run R2 (((L.mono l1).mono l2).wipe own) rx eg fun σ2 eS L2 hw => ⟨?_, ?_⟩
              · rw [hw own hix]
                exact wipe_wipe σ own
              subst eS
              refine ⟨ad1, S2, sl2, R2, L2, ?_⟩
              have keepD : ∀ {ad3 : List Addr} {H3 : Hp}, Le K ad1 H2 ad3 H3 → H3 D = some (.lst vs) ∧ D ∉ ad3 := fun {ad3 H3} l3 => by
                refine ⟨l3.frm D _ (sm _ _ eD) trivial hd1, fun hm => ?_⟩
                exact l3.new D hm hd1 _ (sm _ _ eD) trivial
              cases et : ft sl2 S2 with
              | ok b S3 =>
                rw [et] at h1
                intro ad3 H3 l3 R3
                obtain ⟨eD3, hd3⟩ := keepD l3
                cases b with
                | false =>
                  rw [if_neg Bool.false_ne_true]
                  exact ⟨ad3, S3, acc, vs, (l1.trans l2).trans l3, hd3, R3, eD3, (ra.mono l2).mono l3, h1⟩
                | true =>
                  rw [if_pos rfl]
                  dsimp only at h1
                  refine ⟨ad3, S3, sl2, R3, L2.mono l3, ?_⟩
                  cases ee : fe sl2 S3 with
                  | ok yw S4 =>
                    rw [ee] at h1
                    dsimp only at h1
                    intro ad4 H4 yv l4 R4 ry
                    obtain ⟨eD4, hd4⟩ := keepD (l3.trans l4)
                    by_cases hz : acc.length < sizeLine
                    · rw [if_pos hz] at h1
                      have ra4 := ((ra.mono l2).mono l3).mono l4
                      have b5 : But D H4 (upd H4 D (.lst (vs ++ [yv]))) := But.upd eD4 trivial
                      have u5 : Up K ad4 H4 ad4 (upd H4 D (.lst (vs ++ [yv]))) := ⟨List.prefix_rfl, fun a xs q => by
                        rcases q with (q | ⟨o, q⟩) | q
                        · exact .inl (.inl (b5.tup _ _ q))
                        · exact .inl (.inr ⟨o, b5.keep _ _ (fun z => by rw [z, eD4] at q; cases q) trivial q⟩)
                        · exact .inr q, fun c q n e => ⟨b5.keep _ _ (fun z => by rw [z, eD4] at e; cases e) trivial e, n⟩⟩
                      exact ⟨vs, eD4, by rw [← ra4.length]; exact hz, ad4, S4, acc ++ [yw], vs ++ [yv], (((l1.trans l2).trans l3).trans l4).off hD eD4, hd4, R4.off hd4 u5 b5 (by intro x; rw [eD4]; intro z; cases z) (by intro x; rw [eD4]; intro z; cases z) (by intro x; rw [eD4]; intro z; cases z), upd_same, (ra4.append (.cons ry .nil)).up u5, h1⟩
                    · rw [if_neg hz] at h1; exact h1.elim
                  | ex x S => rw [ee] at h1; exact h1.elim
                  | bad => rw [ee] at h1; exact h1.elim
              | ex x S => rw [et] at h1; exact h1.elim
              | bad => rw [et] at h1; exact h1.elim
            | ex x S => rw [eg] at h1; exact h1.elim
            | bad => rw [eg] at h1; exact h1.elim
theorem run_bdI {K : PySem.W.Frag} {ad : List Addr} {H : Hp} {S : Sto} {Q : VK} {E : XK} {f : M View} {g : View → M W} (h : run T K ad H (bdI f g S) Q E) :
    runI T K ad H (f S) (fun J H1 => ∃ ad1 S1 v, Le K ad H ad1 H1 ∧ Rel T K ad1 H1 S1 ∧ RelIt T K ad1 H1 v J ∧ run T K ad1 H1 (g v S1) Q E) E := by
  unfold bdI at h
  cases q : f S with
  | ok w S1 => rw [q] at h; exact fun a b c l R r => ⟨a, S1, w, l, R, r, run_mono l h⟩
  | ex x S => rw [q] at h; exact h
  | bad => rw [q] at h; exact h
theorem lc_pi {own : List (Str × Nat)} (hok : BlkOk N sc scope own) (hi : SIt m T k c t sc N ow tg iter fi)
    (hix : ∀ i ∈ gt.ix, i ∈ own.map (·.2)) {X : Cx} (g : Good m k c t sc N ow X) {Wx : WX} (tk : Takes X Wx) {σ : St} {H : Hp} {Q : VK} (h : rd T m.K (fun sl => bdI (fi sl) fun v => lcV v gt.g ft fe (wipeS sl (own.map (·.2)))) Wx σ H Q) :
    tLc (rdI T m.K fi Wx) (gt.t m.K) (rdT T m.K ft (fun _ _ _ _ => False)) (rd T m.K fe (fun _ _ _ _ => False)) (own.map (·.2)) σ H Q := by
  obtain ⟨ad, S, sl, R, L, h⟩ := h
  refine ⟨ad, S, sl, R, L, runI_imp (run_bdI h) ?_⟩
  rintro J H1 ⟨ad1, S1, v, l1, R1, r1, h1⟩
  exact lc_run R1 (L.mono l1) r1 hix h1
/-- [elt for target in iter if ..] -/
theorem e_lc (own : List (Str × Nat)) (hc : c = true) (hi : SIt m T k c t sc N ow tg iter fi) (hok : blkC N sc scope own = true) (hg : STg m T k c false (relS scope sc) N (ow0 (cellsOf scope)) tg gt) (ht : STs m T k c false (relS scope sc) N (ow0 (cellsOf scope)) ifs ft)
    (he : SE m T k c false (relS scope sc) N (ow0 (cellsOf scope)) elt fe) (hix : ∀ i ∈ gt.ix, i ∈ own.map (·.2) := by decide) (hs : ∀ env x, foldedSetIterable iter env x = pure x := by intro _ _; rfl) :
    SE m T k c t sc N ow (.ListComp elt [⟨tg, iter, ifs, 0⟩] scope pos) (fun sl => bdI (fi sl) fun v => lcV v gt.g ft fe (wipeS sl (own.map (·.2)))) := fun X g Wx tk => by
  have ok := blkOk_by hok
  refine (pe_lc (own := own) (g.calm hc) (by rw [g.hN]; exact g.nd) (hi X g Wx tk) (by rw [g.hN, g.hsc]; exact ok) (fun s H C cl fp => hg _ (good_blk g ok.uniq s H C cl fp)) (fun s H C cl fp => ht _ (good_blk g ok.uniq s H C cl fp) _ takes_blk)
    (fun s H C cl fp => he _ (good_blk g ok.uniq s H C cl fp) _ takes_blk) (hs _)).imp fun σ H Q h => lc_pi ok hi hix g tk h
/-- name = [..], the name a local, on one line -/
theorem s_setLc (own : List (Str × Nat)) (i : Nat) {y : Str} {py spos : Pos} (hc : c = true) (hi : SIt m T k c t sc N ow tg iter fi) (hok : blkC N sc scope own = true) (hg : STg m T k c false (relS scope sc) N (ow0 (cellsOf scope)) tg gt) (ht : STs m T k c false (relS scope sc) N (ow0 (cellsOf scope)) ifs ft)
    (he : SE m T k c false (relS scope sc) N (ow0 (cellsOf scope)) elt fe) (hix : ∀ i ∈ gt.ix, i ∈ own.map (·.2) := by decide) (hy : N[i]? = some y := by rfl) (hyl : sc.names.lookup y = some .local := by rfl) (hk : sc.kind = .function := by rfl) (hl : (py.line == pos.line) = true := by rfl)
    (ha : (scope.names.any fun (n, k) => n == y && (k == .local || k == .cell)) = false := by decide +kernel) (hs : ∀ env x, foldedSetIterable iter env x = pure x := by intro _ _; rfl) :
    SS m T k c t sc N ow (.Assign [.Name y py] (.ListComp elt [⟨tg, iter, ifs, 0⟩] scope pos) spos) (fun sl => exS sl (bdI (fi sl) fun v => lcV v gt.g ft fe (wipeS sl (own.map (·.2)))) fun w => ret (.nx (sl.set i (some w)))) := fun X g Wx tk => by
  have ok := blkOk_by hok
  refine (ps_setLc (i := i) (own := own) (g.calm hc) (by rw [g.hN]; exact g.nd) (by rw [g.hN]; exact hy) (by rw [g.hsc]; exact hyl) (sw_true (by rw [g.hsc]; exact hk) (by rw [g.hsc]; exact hyl) hl ha) (hi X g Wx tk) (by rw [g.hN, g.hsc]; exact ok) (fun s H C cl fp => hg _ (good_blk g ok.uniq s H C cl fp))
    (fun s H C cl fp => ht _ (good_blk g ok.uniq s H C cl fp) _ takes_blk) (fun s H C cl fp => he _ (good_blk g ok.uniq s H C cl fp) _ takes_blk) (hs _)).imp fun D σ H h => ?_
  obtain ⟨ad, S, sl, R, L, h⟩ := h
  refine lc_pi ok hi hix g tk ⟨ad, S, sl, R, L, run_imp (run_exS L h) ?_⟩
  rintro v H1 ⟨ad1, S1, w1, l1, R1, r1, h1⟩
  exact runS_nx R1 ((L.mono l1).set r1 i) h1
/-! ### what is walked -/
variable {a : Expr} {fa : Slots → M W} {es : List Expr} {fs : Slots → M (List W)}
def seqV (w : W) : M View := fun S => match w with
  | .tup ws => .ok (fun _ => some ws) S
  | .ref i => match seqOf S i with
    | some _ => .ok (fun S => seqOf S i) S
    | none => .bad
  | .str x => .ok (fun _ => some (x.cps.toList.map fun n => W.str ⟨#[n]⟩)) S
  | _ => .bad
theorem it_list {K : PySem.W.Frag} {ad : List Addr} {H : Hp} {i : Nat} {p : Addr} (e : ad[i]? = some p) : RelIt T K ad H (fun S => seqOf S i) (Itl K p) := fun ad' H' S' l R ws hw n => by
  obtain ⟨vs, q, r⟩ := R.seq (pre_get l.pre e) hw
  refine ⟨fun hn => ?_, fun hn => ⟨vs, q, by rw [← r.length]; exact hn⟩, fun x H2 y w hw2 => ?_⟩
  · obtain ⟨v, hv, _⟩ := r.get (List.getElem?_eq_getElem hn)
    exact ⟨vs, v, q, hv⟩
  · obtain ⟨rfl, y⟩ := y
    obtain ⟨v, hv, rv⟩ := r.get hw2
    have := y vs q
    rw [hv] at this
    cases this
    exact ⟨Same.refl _, rv⟩
theorem it_tup {K : PySem.W.Frag} {ad : List Addr} {H : Hp} {ws : List W} {vs : List V} {p : Addr} (s : SqT K H p vs) (r : RelWs K ad H ws vs) : RelIt T K ad H (fun _ => some ws) (Itt K p) := fun ad' H' S' l R ws' hw n => by
  cases hw
  have q := l.fwd _ _ s
  have r := r.up l
  refine ⟨fun hn => ?_, fun hn => ⟨vs, q, by rw [← r.length]; exact hn⟩, fun x H2 y w hw2 => ?_⟩
  · obtain ⟨v, hv, _⟩ := r.get (List.getElem?_eq_getElem hn)
    exact ⟨vs, v, q, hv⟩
  · obtain ⟨rfl, y⟩ := y
    obtain ⟨v, hv, rv⟩ := r.get hw2
    have := y vs q
    rw [hv] at this
    cases this
    exact ⟨Same.refl _, rv⟩
theorem it_str {K : PySem.W.Frag} {ad : List Addr} {H : Hp} (x : Str) : RelIt T K ad H (fun _ => some (x.cps.toList.map fun n => W.str ⟨#[n]⟩)) (Its x) := fun ad' H' S' l R ws' hw n => by
  cases hw
  refine ⟨fun hn => show n < x.cps.size by simpa using hn, fun hn => show x.cps.size ≤ n by simpa using hn, fun v H2 y w hw2 => ?_⟩
  obtain ⟨rfl, cc, hc, rfl⟩ := y
  rw [List.getElem?_map] at hw2
  have : x.cps.toList[n]? = some cc := by simpa using hc
  rw [this] at hw2
  cases hw2
  exact ⟨Same.refl _, .str _⟩
/-- for x in e: a list, a tuple, a text -/
theorem it_val (ha : SE m T k c t sc N ow a fa) : SIt m T k c t sc N ow tg a (fun sl => bd (fa sl) seqV) := fun X g Wx tk => by
  have h1 := pi_list (tg := tg) (ha X g Wx tk)
  have h2 := pi_tup (tg := tg) (ha X g Wx tk)
  have h3 := pi_str (tg := tg) (ha X g Wx tk)
  have ek : X.K = m.K := by rw [← g.mo]; rfl
  rw [ek] at h1 h2
  refine ⟨fun pins s σ H R I h => ?_⟩
  obtain ⟨ad, S, sl, Re, L, h⟩ := h
  unfold bd at h
  cases q : fa sl S with
  | ok w S1 =>
    simp only [q] at h
    cases w with
    | tup ws =>
      refine h2.run pins s σ H R I ⟨ad, S, sl, Re, L, ?_⟩
      rw [q]
      intro ad1 H1 v l1 R1 r1
      cases r1 with
      | tup s1 r2 => exact ⟨_, rfl, ⟨_, s1⟩, h ad1 H1 _ l1 R1 (it_tup s1 r2)⟩
    | ref i =>
      refine h1.run pins s σ H R I ⟨ad, S, sl, Re, L, ?_⟩
      rw [q]
      intro ad1 H1 v l1 R1 r1
      cases r1 with
      | ref e =>
        simp only [seqV] at h
        cases hs : seqOf S1 i with
        | none => rw [hs] at h; exact h.elim
        | some ws =>
          rw [hs] at h
          obtain ⟨vs, qv, _⟩ := R1.seq e hs
          exact ⟨_, rfl, ⟨_, qv⟩, h ad1 H1 _ l1 R1 (it_list e)⟩
    | str x =>
      refine h3.run pins s σ H R I ⟨ad, S, sl, Re, L, ?_⟩
      rw [q]
      intro ad1 H1 v l1 R1 r1
      cases r1
      exact ⟨x, rfl, h ad1 H1 _ l1 R1 (it_str x)⟩
    | non => exact h.elim
    | bl b => exact h.elim
    | int i => exact h.elim
    | adr i => exact h.elim
    | ty i => exact h.elim
    | lam f c q => exact h.elim
  | ex x S1 =>
    simp only [q] at h
    refine h2.run pins s σ H R I ⟨ad, S, sl, Re, L, ?_⟩
    rw [q]
    exact h
  | bad => simp only [q] at h; exact h.elim
/-! ### range -/
def range1V (ws : List W) : M View := fun S => match ws with
  | [.int n] => if -(2 ^ 62) ≤ n ∧ n < 2 ^ 62 then .ok (fun _ => some ((List.range n.toNat).map fun (i : Nat) => W.int i)) S else .bad
  | _ => .bad
theorem it_range {K : PySem.W.Frag} {ad : List Addr} {H : Hp} (lo : Int) (n : Nat) : RelIt T K ad H (fun _ => some ((List.range n).map fun (i : Nat) => W.int (lo + i))) (Itr lo n) := fun ad' H' S' l R ws' hw j => by
  cases hw
  refine ⟨fun hn => show j < n by simpa using hn, fun hn => show n ≤ j by simpa using hn, fun v H2 y w hw2 => ?_⟩
  obtain ⟨rfl, rfl⟩ := y
  rw [List.getElem?_map] at hw2
  by_cases hj : j < n
  · rw [List.getElem?_range hj] at hw2
    cases hw2
    exact ⟨Same.refl _, .int _⟩
  · rw [List.getElem?_eq_none (by simpa using hj)] at hw2
    cases hw2
theorem bdA_runI {K : PySem.W.Frag} {ad : List Addr} {H : Hp} {S : Sto} {mm : M (List W)} {kk : List W → M View} {R : It → Hp → Prop} {E : XK} (h : runI T K ad H (bd mm kk S) R E) :
    runA T K ad H (mm S) (fun vs H1 => ∃ ad1 S1 ws, Le K ad H ad1 H1 ∧ Rel T K ad1 H1 S1 ∧ RelWs K ad1 H1 ws vs ∧ runI T K ad1 H1 (kk ws S1) R E) E := by
  unfold bd at h
  cases q : mm S with
  | ok w S1 =>
    rw [q] at h
    refine fun a b c l R r => ⟨a, S1, w, l, R, r, ?_⟩
    cases q2 : kk w S1 with
    | ok v S2 => simp only [q2] at h; exact fun a' b' c' l' => h a' b' c' (l.trans l')
    | ex x S2 => simp only [q2] at h; exact fun a' b' c' d' l' => h a' b' c' d' (l.trans l')
    | bad => simp only [q2] at h; exact h
  | ex x S => rw [q] at h; exact h
  | bad => rw [q] at h; exact h
theorem it_rng1 {p p2 : Pos} (hm : m.mg "range" = none) (ha : SA m T k c t sc N ow [a] fs) (hg : sc.names.lookup ("range" : Str) = some .globalImplicit := by rfl) (hs : ∀ env, starEach [a] env = [(false, eval a env)] := by intro _; rfl) :
    SIt m T k c t sc N ow tg (.Call (.Name "range" p) [a] [] p2) (fun sl => bd (fs sl) range1V) := fun X g Wx tk => by
  have em : X.mg = m.mg := by rw [← g.mo]; rfl
  have h1 := pi_range1 (tg := tg) (p := p) (pos := p2) (gl_of g hg) (by rw [em]; exact hm) (ha X g Wx tk) (hs _)
  refine ⟨fun pins s σ H R I h => h1.run pins s σ H R I ?_⟩
  obtain ⟨ad, S, sl, Re, L, h⟩ := h
  refine ⟨ad, S, sl, Re, L, runA_imp (bdA_runI h) ?_⟩
  rintro vs H1 ⟨ad1, S1, ws, l1, R1, r1, h1⟩
  unfold range1V at h1
  split at h1
  · split at h1
    · rename_i n hn
      match vs, r1 with
      | [_], .cons (.int _) .nil =>
        refine ⟨n, rfl, hn.1, hn.2, h1 _ _ _ Le.refl R1 ?_⟩
        have := it_range (T := T) (K := m.K) (ad := ad1) (H := H1) 0 n.toNat
        simpa using this
    · exact h1.elim
  · exact h1.elim
end
end RP

/-! RpH: defs of the text: their promise, their calls; instances, their fields, methods, properties. -/
namespace RP
open PySem L2

/-- a def behaves as g -/
def spM (T : Tab) (K : PySem.W.Frag) (g : List W → M W) : Sp := fun vs H Q E => ∃ ad S ws, Rel T K ad H S ∧ RelWs K ad H ws vs ∧ run T K ad H (g ws S) Q E
structure FnM (m : Mo) (T : Tab) (k : Nat) (f : Addr) (n : Nat) (g : List W → M W) : Prop where
  len : ∀ ws S, ws.length ≠ n → g ws S = .bad
  ok : ∃ fd ps, ps.length = n ∧ FnOk m.P m.w m.K m.mg m.base (CX m.P m.w) k f fd ps (spM T m.K g) ∧ Binds m.K fd ps []
  kp : PySem.W.keepIn m.K (.ref f) = true
/-- a body as a function of its arguments -/
def bodyM (L n : Nat) (fb : Slots → M Fl) (ws : List W) : M W := fun S => if ws.length = n then
    match fb (ws.map some ++ List.replicate (L - ws.length) none) S with
    | .ok (.nx _) S' => .ok .non S'
    | .ok (.rt w) S' => .ok w S'
    | .ok (.xx x _) S' => .ex x S'
    | _ => .bad
  else .bad
theorem FnM.mono {m : Mo} {T : Tab} {j k : Nat} {f : Addr} {n : Nat} {g : List W → M W} (F : FnM m T j f n g) (h : j ≤ k) : FnM m T k f n g := by
  obtain ⟨fd, ps, a, b, c⟩ := F.ok
  exact ⟨F.len, ⟨fd, ps, a, b.mono h, c⟩, F.kp⟩
/-- the same by another function -/
theorem FnM.eq {m : Mo} {T : Tab} {k : Nat} {f : Addr} {n : Nat} {g g' : List W → M W} (F : FnM m T k f n g) (h : g = g') : FnM m T k f n g' := h ▸ F
theorem not_bad {T : Tab} {K : PySem.W.Frag} {ad : List Addr} {H : Hp} {Q : VK} {E : XK} {r : Res W} (h : run T K ad H r Q E) : r ≠ .bad := fun z => by
  rw [z] at h
  exact h
theorem fn_mk {m : Mo} {T : Tab} {k : Nat} {x qual : Str} {st : Stmt} {f : Addr} {fd : FuncData} {N ps : List Str} {fb : Slots → M Fl} (F : Fun m.K x qual st f fd) (S : FnScope N ps (defScope st)) (hb : Binds m.K fd ps [])
    (h : SSs m T k true true (defScope st) N (ow0 N) (defBody st) fb) : FnM m T (k + 1) f ps.length (bodyM N.length ps.length fb) := by
  have len : ∀ ws S, ws.length ≠ ps.length → bodyM N.length ps.length fb ws S = .bad := fun ws S hn => by unfold bodyM; rw [if_neg hn]
  refine ⟨len, ⟨fd, ps, rfl, ?_, hb⟩, F.kp⟩
  obtain ⟨oc, od, kV, doc, pm, an, cdv, ct, osl, rfl, lk, hcd⟩ := F.ex
  refine fn_of lk hcd S (fun vs H Q E hsp => ?_) fun A outer s H vs Q E hr hsp => ?_
  · obtain ⟨ad, S, ws, R, r, h⟩ := hsp
    rw [← r.length]
    apply Classical.byContradiction
    intro hn
    exact not_bad h (len ws S hn)
  · obtain ⟨ad, S0, ws, R, r, hh⟩ := hsp
    have hl : ws.length = ps.length := Classical.byContradiction fun hn => not_bad hh (len ws S0 hn)
    have g : Good m k true true (defScope st) N (ow0 N) (cxOf (CX m.P m.w) m.P m.w m.K m.mg m.base N qual (defScope st) f cdv A outer s H E) :=
      ⟨rfl, rfl, rfl, S.nd, fun _ => rfl, fun _ => hr, hr.units, passes_of rfl, fun _ _ => rfl, trivial, fun _ => ⟨rfl, rfl⟩⟩
    refine ⟨_, h _ g _ (takes_of rfl rfl rfl rfl), ad, S0, _, R, RelSl.start (N := N) r, ?_⟩
    unfold bodyM at hh
    rw [if_pos hl] at hh
    cases q : fb (ws.map some ++ List.replicate (N.length - ws.length) none) S0 with
    | ok fl S1 =>
      rw [q] at hh
      cases fl with
      | nx sl => exact fun ad' H' σ' l R' L' => hh ad' H' .non l R' .non
      | rt w => exact hh
      | bk sl => exact hh.elim
      | ct sl => exact hh.elim
      | xx x sl => exact fun ad' H' cls d σ' l R' x' L' => hh ad' H' cls d l R' x'
    | ex x S1 => rw [q] at hh; exact hh.elim
    | bad => rw [q] at hh; exact hh.elim

section
variable {m : Mo} {T : Tab} {k : Nat} {c t : Bool} {sc : Scope} {N : List Str} {ow : Ow} {e o : Expr} {es : List Expr} {fo : Slots → M W} {fs : Slots → M (List W)} {pos p apos : Pos} {x : Str} {f C : Addr} {n : Nat} {g1 : List W → M W}
/-- the callee runs -/
theorem run_fnM {X : Cx} (g : Good m k c t sc N ow X) (hc : c = true) (F : FnM m T k f n g1) {Wx : WX} (tk : Takes X Wx) {pins : List (Addr × Obj)} {σ : St} {H : Hp} {s : Shared} {Q : VK} {us : List Value} {vs : List V} (I : Inv X pins σ H s) (r : Vals vs us)
    (h : spM T m.K g1 vs H Q fun c d H' => Wx c d σ H') : wpAny (model X.prog X.w) X.A (call (.ref f) us) (EP X pins σ Q) X.xe s := by
  have room := g.room hc
  obtain ⟨rfl, _⟩ := g
  obtain ⟨fd, ps, _, G, b⟩ := F.ok
  exact run_fnS (E := WE Wx) G room b (passAt tk σ) I r h
theorem e_call (hc : c = true) (F : FnM m T k f n g1) (hm : m.mg x = some (.ref f)) (ha : SA m T k c t sc N ow (e :: es) fs) (hg : sc.names.lookup x = some .globalImplicit := by rfl) (hdb : (x == ("__debug__" : Str)) = false := by decide)
    (he : ∀ env, starEach (e :: es) env = (false, eval e env) :: starEach es env := by intro _; rfl) (hpl : ∀ env, (backTo pos (starEach es env)).any (·.1) = false := by intro _; rfl) :
    SE m T k c t sc N ow (.Call (.Name x p) (e :: es) [] pos) (fun sl => bd (fs sl) g1) := fun X g Wx tk => by
  have hG := gl_of g hg
  have room := g.room hc
  have ha := ha X g Wx tk
  obtain ⟨rfl, _⟩ := g
  obtain ⟨fd, ps, _, G, b⟩ := F.ok
  refine (pe_callS (E := WE Wx) G room hG hm F.kp b (fun σ => passAt tk σ) ha hdb (he _) (hpl _)).imp fun σ H Q h => ?_
  obtain ⟨ad, S, sl, R, L, h⟩ := h
  refine ⟨ad, S, sl, R, L, runA_imp (runA_bd h) ?_⟩
  rintro vs H1 ⟨ad1, S1, ws, l1, R1, r1, h1⟩
  exact ⟨ad1, S1, ws, R1, r1, h1⟩
theorem e_call0 (hc : c = true) (F : FnM m T k f n g1) (hm : m.mg x = some (.ref f)) (hg : sc.names.lookup x = some .globalImplicit := by rfl) (hdb : (x == ("__debug__" : Str)) = false := by decide) :
    SE m T k c t sc N ow (.Call (.Name x p) [] [] pos) (fun sl => g1 []) := fun X g Wx tk => by
  have hG := gl_of g hg
  have g' := g
  obtain ⟨rfl, _⟩ := g
  refine ⟨fun pins s σ H Q I h => ?_⟩
  refine wpAny_Call_Name_kw (ld_glob I hG hm ?_ hdb)
  obtain ⟨ad, S, sl, R, L, h⟩ := h
  exact PySem.W.callWith_K0 I.kIn F.kp (run_fnM g' hc F tk I .nil ⟨ad, S, [], R, .nil, h⟩)
/-! ### new instances -/
/-- C(..): a new instance (sl: with slots), then __init__ -/
def makeM (sl : Bool) (cc : Nat) (g : List W → M W) (ws : List W) : M W := fun S =>
  match g (.ref S.length :: ws) (S ++ [if sl then .slo cc [] else .ins cc []]) with
  | .ok .non S' => .ok (.ref S.length) S'
  | .ok _ _ => .bad
  | .ex x S' => .ex x S'
  | .bad => .bad
theorem run_makeM {X : Cx} {j : Nat} (g : Good m k c t sc N ow X) (hc : c = true) {sl : Bool} {cc : Nat} (M : Mk m.K (T.cls cc) f) (F : FnM m T j f n g1) (hj : j + 1 ≤ k) {Wx : WX} (tk : Takes X Wx) {pins : List (Addr × Obj)} {σ : St} {H : Hp} {s : Shared} {Q : VK} {us : List Value} {vs : List V}
    (I : Inv X pins σ H s) (r : Vals vs us) (h : spM T m.K (makeM sl cc g1) vs H Q fun c d H' => Wx c d σ H') : wpAny (model X.prog X.w) X.A (call (.ref (T.cls cc)) us) (EP X pins σ Q) X.xe s := by
  have room := (g.room hc).mono hj
  obtain ⟨rfl, _⟩ := g
  obtain ⟨fd, ps, _, G, hb⟩ := F.ok
  have key : ∀ x dx, H x = none → H dx = none → dx ≠ x → spM T (moOf X).K g1 (.ref x :: vs) (upd (upd H dx (.own x)) x (.ins (T.cls cc) dx [])) (fun v H2 => v = .non ∧ Q (.ref x) H2) fun c d H' => Wx c d σ H' := fun x dx hx hdx hne => by
    obtain ⟨ad, S, ws, R, rw', h⟩ := h
    have sm : Same H (upd (upd H dx (.own x)) x (.ins (T.cls cc) dx [])) := fun b o e => by
      rw [upd_ne (ne_of_none e hx), upd_ne (ne_of_none e hdx)]
      exact e
    have l : Le (moOf X).K ad H (ad ++ [x]) _ := Le.one sm hx
    refine ⟨ad ++ [x], S ++ [if sl then .slo cc [] else .ins cc []], .ref S.length :: ws, R.alloc sm hx ?_, .cons (.ref (by rw [← R.len]; simp)) (rw'.mono l), ?_⟩
    · cases sl with
      | true => exact ⟨dx, [], .inl ⟨upd_same, rfl⟩, hne, .inl (by rw [upd_ne hne, upd_same]), .nil⟩
      | false => exact ⟨dx, [], by rw [upd_same, List.zip_nil_right], Nat.zero_le _, .nil⟩
    · unfold makeM at h
      cases q : g1 (.ref S.length :: ws) (S ++ [if sl then .slo cc [] else .ins cc []]) with
      | ok w S1 =>
        simp only [q] at h
        cases w with
        | non =>
          intro ad' H' v l' R' r'
          cases r'
          exact ⟨rfl, h ad' H' _ (l.trans l') R' (.ref (pre_get l'.pre (by rw [← R.len]; simp)))⟩
        | _ => exact h.elim
      | ex x S1 => simp only [q] at h; exact fun a b c d l' => h a b c d (l.trans l')
      | bad => simp only [q] at h; exact h.elim
  have hq := key (s.heap.objs.size + 1) s.heap.objs.size (I.hok.fresh (Nat.le_succ _)) (I.hok.fresh (Nat.le_refl _)) (Nat.ne_of_lt (Nat.lt_succ_self _))
  have I2 := Inv.made (C := T.cls cc) I
  have r2 : Vals (V.ref (s.heap.objs.size + 1) :: vs) (Value.ref (s.heap.objs.size + 1) :: us) := .cons rfl r
  have hl : (Value.ref (s.heap.objs.size + 1) :: us ++ []).length = ps.length := by
    have e := r2.length
    rw [G.len _ _ _ _ hq] at e
    rw [List.append_nil]
    exact e.symm
  have b2 := hb _ (Value.ref (s.heap.objs.size + 1) :: us) I2.kIn hl
  rw [List.append_nil] at b2
  refine wpAny_call (make_map (f := f) I.kIn M.makes M.init (beq_iff_eq.mp M.fn) (codeAny_mono (G.run _ X.stack _ _ ⟨Value.ref (s.heap.objs.size + 1) :: us, []⟩ (Value.ref (s.heap.objs.size + 1) :: us) _ _ _ (room.make (T.cls cc) us [])
    (I2.env0.make (T.cls cc) us []) b2 r2 hq) fun r s' hq' => ?_))
  cases r with
  | error e => exact passAt tk σ pins _ _ e s' I2 hq'
  | ok fl =>
    cases fl with
    | ret u =>
      obtain ⟨v, H', I3, rv, ev, q3⟩ := I2.after hq'
      subst ev
      exact ⟨rv, ⟨V.ref (s.heap.objs.size + 1), H', I3, rfl, q3⟩⟩
    | next => exact False.elim hq'
    | brk => exact False.elim hq'
    | cont => exact False.elim hq'
theorem e_make {j : Nat} (sl : Bool) (cc : Nat) (hc : c = true) (M : Mk m.K (T.cls cc) f) (F : FnM m T j f n g1) (hm : m.mg x = some (.ref (T.cls cc))) (ha : SA m T k c t sc N ow (e :: es) fs) (hj : j + 1 ≤ k := by decide) (hg : sc.names.lookup x = some .globalImplicit := by rfl) (hdb : (x == ("__debug__" : Str)) = false := by decide)
    (he : ∀ env, starEach (e :: es) env = (false, eval e env) :: starEach es env := by intro _; rfl) (hpl : ∀ env, (backTo pos (starEach es env)).any (·.1) = false := by intro _; rfl) :
    SE m T k c t sc N ow (.Call (.Name x p) (e :: es) [] pos) (fun s => bd (fs s) (makeM sl cc g1)) := fun X g Wx tk => by
  have hG := gl_of g hg
  have ha := ha X g Wx tk
  have g' := g
  obtain ⟨rfl, _⟩ := g
  refine ⟨fun pins s σ H Q I h => ?_⟩
  refine wpAny_Call_Name_kw (ld_glob I hG hm ?_ hdb)
  obtain ⟨ad, S, sl', R, L, h⟩ := h
  refine PySem.W.callWith_K (h₀ := X.base) I.ok.mod.kin M.kp (thn (ha.run pos pins s σ H _ I ⟨ad, S, sl', R, L, runA_bd h⟩) fun us s1 ⟨vs, H1, I1, r, q⟩ => ⟨I1.kIn, ?_⟩) (he _) (hpl _)
  obtain ⟨ad1, S1, ws, l1, R1, r1, h1⟩ := q
  exact run_makeM g' hc M F hj tk I1 r ⟨ad1, S1, ws, R1, r1, h1⟩
/-! ### methods -/
/-- the class of an instance of the state -/
def clsOf (S : Sto) : W → Option (Bool × Nat)
  | .ref i => match S[i]? with
    | some (.ins c _) => some (false, c)
    | some (.slo c _) => some (true, c)
    | _ => none
  | _ => none
/-- o.m(..) -/
def methM (sl : Bool) (cc : Nat) (fo : M W) (fs : M (List W)) (g : List W → M W) : M W := bd fo fun w S => if clsOf S w = some (sl, cc) then bd fs (fun ws => g (w :: ws)) S else .bad
theorem lookup_zip_none {fl : List Str} {vs : List V} {x : Str} (h : x ∉ fl) : (fl.zip vs).lookup x = none := by
  rw [List.lookup_eq_none_iff]
  intro p hp
  have := (List.of_mem_zip hp).1
  simp only [bne_iff_ne, ne_eq, beq_eq_false_iff_ne]
  intro e
  exact h (e ▸ this)
theorem clsOf_ins {K : PySem.W.Frag} {ad : List Addr} {H : Hp} {S : Sto} {w : W} {cc : Nat} {v : V} (R : Rel T K ad H S) (r : RelW K ad H w v) (e : clsOf S w = some (false, cc)) : ∃ a dx vs, v = .ref a ∧ H a = some (.ins (T.cls cc) dx ((T.fl cc).zip vs)) := by
  unfold clsOf at e
  split at e
  · split at e
    · rename_i h
      cases e
      cases r with
      | ref e1 =>
      obtain ⟨dx, vs, h1, _⟩ := R.ob _ _ _ e1 h
      exact ⟨_, dx, vs, rfl, h1⟩
    · cases e
    · cases e
  · cases e
theorem clsOf_slo {K : PySem.W.Frag} {ad : List Addr} {H : Hp} {S : Sto} {w : W} {cc : Nat} {v : V} (R : Rel T K ad H S) (r : RelW K ad H w v) (e : clsOf S w = some (true, cc)) : ∃ (a dx : Addr) (vs : List V), v = .ref a ∧ SlX.Slt H a (T.cls cc) dx (vs.map some) := by
  unfold clsOf at e
  split at e
  · split at e
    · cases e
    · rename_i h
      cases e
      cases r with
      | ref e1 =>
      obtain ⟨dx, vs, h1, _⟩ := R.ob _ _ _ e1 h
      exact ⟨_, dx, vs, rfl, h1⟩
    · cases e
  · cases e
theorem e_meth {nm : Str} {pl : Env → Sem Bool} {j : Nat} (cc : Nat) (hc : c = true) (ho : SE m T k c t sc N ow o fo) (cl : Cls m.K (T.cls cc)) (hm : Meth m.K (T.cls cc) nm f) (F : FnM m T j f n g1) (ha : SA m T k c t sc N ow (e :: es) fs) (hnf : nm ∉ T.fl cc) (hj : j ≤ k := by decide)
    (he : ∀ env, starEach (e :: es) env = (false, eval e env) :: starEach es env := by intro _; rfl) (hpl : ∀ env, (backTo pos (starEach es env)).any (·.1) = false := by intro _; rfl)
    (ht : ∀ env, eval (.Call (.Attribute o nm apos) (e :: es) [] pos) env = (do
      let ov ← eval o env
      standAt apos.atName
      let (f, first) ← holding [ov] (getMethod ov nm (pl env))
      callWith pos f first (backTo pos (starEach (e :: es) env)) (backToKw pos (keywordEach [] env))) := by intro _; rfl) :
    SE m T k c t sc N ow (.Call (.Attribute o nm apos) (e :: es) [] pos) (fun s => methM false cc (fo s) (fs s) g1) := fun X g Wx tk => by
  have ho := ho X g Wx tk
  have ha := ha X g Wx tk
  have g' := g
  obtain ⟨rfl, _⟩ := g
  refine ⟨fun pins s σ H Q I h => ?_⟩
  obtain ⟨ad, S, sl, R, L, h⟩ := h
  refine PySem.W.methodCall_KW (pl := pl X.env) (thn (ho.run pins s σ H _ I ⟨ad, S, sl, R, L, run_bd h⟩) fun u s1 ⟨xv, H1, I1, rx, ad1, S1, w1, l1, R1, r1, h1⟩ => ?_) (ht _)
  split at h1
  · rename_i hcl
    obtain ⟨a, dx, vs, rfl, ea⟩ := clsOf_ins R1 r1 hcl
    obtain rfl : u = Value.ref a := rx
    refine getmeth_ok I1 ea cl hm (lookup_zip_none hnf) ?_
    refine PySem.W.callWith_K (first := [.ref a]) (h₀ := X.base) I.ok.mod.kin hm.kp (thn (ha.run pos pins s1 σ H1 _ I1 ⟨ad1, S1, sl, R1, L.mono l1, runA_bd h1⟩) fun us s2 ⟨vs2, H2, I2, r, ad2, S2, ws, l2, R2, r2, h2⟩ => ⟨I2.kIn, ?_⟩) (he _) (hpl _)
    exact run_fnM (us := .ref a :: us) (vs := .ref a :: vs2) g' hc (F.mono hj) tk I2 (.cons rfl r) ⟨ad2, S2, w1 :: ws, R2, .cons (r1.mono l2) r2, h2⟩
  · exact h1.elim
end
end RP

/-! RpI: fields, slots, properties. -/
namespace RP
open PySem L2
/-! ### fields by their places -/
theorem lookup_zip {x : Str} {v : V} : ∀ {fl : List Str} {vs : List V} {j : Nat}, fl.Nodup → fl[j]? = some x → vs[j]? = some v → (fl.zip vs).lookup x = some v
  | [], _, _, _, e, _ => by simp at e
  | _ :: _, [], _, _, _, e => by simp at e
  | f :: fl, u :: vs, 0, nd, e, q => by
    simp at e q
    subst e q
    rw [List.zip_cons_cons, List.lookup_cons_self]
  | f :: fl, u :: vs, j + 1, nd, e, q => by
    have e' : fl[j]? = some x := by simpa using e
    have hne : (x == f) = false := by
      rw [beq_eq_false_iff_ne]
      intro z
      subst z
      exact (List.nodup_cons.mp nd).1 (List.mem_of_getElem? e')
    rw [List.zip_cons_cons, List.lookup_cons, hne]
    exact lookup_zip (List.nodup_cons.mp nd).2 e' (by simpa using q)
theorem putF_zip_set {x : Str} {y : V} : ∀ {fl : List Str} {vs : List V} {j : Nat}, fl.Nodup → fl[j]? = some x → j < vs.length → putF x y (fl.zip vs) = fl.zip (vs.set j y)
  | [], _, _, _, e, _ => by simp at e
  | _ :: _, [], _, _, _, h => by simp at h
  | f :: fl, u :: vs, 0, nd, e, h => by
    simp at e
    subst e
    simp [putF]
  | f :: fl, u :: vs, j + 1, nd, e, h => by
    have e' : fl[j]? = some x := by simpa using e
    have hne : ¬ f = x := fun z => (List.nodup_cons.mp nd).1 (z ▸ List.mem_of_getElem? e')
    rw [List.zip_cons_cons]
    show (if f = x then _ else _) = _
    rw [if_neg hne, putF_zip_set (List.nodup_cons.mp nd).2 e' (by simpa using h)]
    rfl
theorem putF_zip_new {x : Str} {y : V} : ∀ {fl : List Str} {vs : List V}, fl.Nodup → fl[vs.length]? = some x → putF x y (fl.zip vs) = fl.zip (vs ++ [y])
  | [], _, _, e => by simp at e
  | f :: fl, [], nd, e => by
    simp at e
    subst e
    simp [putF]
  | f :: fl, u :: vs, nd, e => by
    have e' : fl[vs.length]? = some x := by simpa using e
    have hne : ¬ f = x := fun z => (List.nodup_cons.mp nd).1 (z ▸ List.mem_of_getElem? e')
    rw [List.zip_cons_cons]
    show (if f = x then _ else _) = _
    rw [if_neg hne, putF_zip_new (List.nodup_cons.mp nd).2 e']
    rfl
/-- a field is stored at its place -/
def putAt (j : Nat) (w : W) (fs : List W) : Option (List W) := if j < fs.length then some (fs.set j w) else if j = fs.length then some (fs ++ [w]) else none
/-- o.f of an instance of class cc (sl: with slots), f in place j -/
def fldM (sl : Bool) (cc j : Nat) (w : W) : M W := fun S => match w with
  | .ref i => match S[i]? with
    | some (.ins c fs) => if sl = false ∧ c = cc then (match fs[j]? with | some v => .ok v S | none => .bad) else .bad
    | some (.slo c fs) => if sl = true ∧ c = cc then (match fs[j]? with | some v => .ok v S | none => .bad) else .bad
    | _ => .bad
  | _ => .bad
def setFldM (sl : Bool) (cc j : Nat) (w v : W) : M Unit := fun S => match w with
  | .ref i => match S[i]? with
    | some (.ins c fs) => if sl = false ∧ c = cc then (match putAt j v fs with | some fs' => .ok () (S.set i (.ins c fs')) | none => .bad) else .bad
    | some (.slo c fs) => if sl = true ∧ c = cc then (match putAt j v fs with | some fs' => .ok () (S.set i (.slo c fs')) | none => .bad) else .bad
    | _ => .bad
  | _ => .bad
/-- what is said of a class with a dict, of one with slots, and of a field -/
structure FldOk (m : Mo) (T : Tab) (cc j : Nat) (f : Str) : Prop where
  cl : Cls m.K (T.cls cc)
  no : NoAttr m.K (T.cls cc) f
  at_ : (T.fl cc)[j]? = some f
  nd : (T.fl cc).Nodup
  few : (T.fl cc).length < 900
structure SltOk (m : Mo) (T : Tab) (cc j : Nat) (f : Str) : Prop where
  cl : SlX.SCls m.K (T.cls cc)
  sl : ∃ p, SlX.Slot1 m.K (T.cls cc) f p j
section
variable {m : Mo} {T : Tab} {k : Nat} {c t : Bool} {sc : Scope} {N : List Str} {ow : Ow} {e o : Expr} {fo fe : Slots → M W} {pos p apos : Pos} {f : Str} {cc j : Nat}
theorem e_fld (F : FldOk m T cc j f) (ho : SE m T k c t sc N ow o fo) (hb : ∀ env, attributeBase o f env (eval o env) = eval o env := by intro _; rfl) : SE m T k c t sc N ow (.Attribute o f pos) (fun s => bd (fo s) (fldM false cc j)) := fun X g Wx tk => by
  have ho := ho X g Wx tk
  obtain ⟨rfl, _⟩ := g
  refine (pe_fld ho (hb _)).imp fun σ H Q h => ?_
  obtain ⟨ad, S, sl, R, L, h⟩ := h
  refine ⟨ad, S, sl, R, L, run_imp (run_bd h) ?_⟩
  rintro v H1 ⟨ad1, S1, w1, l1, R1, r1, h1⟩
  unfold fldM at h1
  split at h1
  · split at h1
    · rename_i hs
      split at h1
      · rename_i hcc
        cases r1 with
        | ref e1 =>
        obtain ⟨dx, vs, q1, q2, q3⟩ := R1.ob _ _ _ e1 hs
        split at h1
        · rename_i hv
          obtain ⟨v', hv', rv⟩ := q3.get hv
          rw [hcc.2] at q1
          exact ⟨_, _, dx, _, v', rfl, q1, F.cl, F.no, lookup_zip F.nd F.at_ hv', run_ok R1 rv h1⟩
        · exact h1.elim
      · exact h1.elim
    · split at h1
      · rename_i hcc; cases hcc.1
      · exact h1.elim
    · exact h1.elim
  · exact h1.elim
theorem e_slt (F : SltOk m T cc j f) (ho : SE m T k c t sc N ow o fo) (hb : ∀ env, attributeBase o f env (eval o env) = eval o env := by intro _; rfl) : SE m T k c t sc N ow (.Attribute o f pos) (fun s => bd (fo s) (fldM true cc j)) := fun X g Wx tk => by
  have ho := ho X g Wx tk
  obtain ⟨rfl, _⟩ := g
  obtain ⟨p, sp⟩ := F.sl
  refine (SlX.pe_sl ho (hb _)).imp fun σ H Q h => ?_
  obtain ⟨ad, S, sl, R, L, h⟩ := h
  refine ⟨ad, S, sl, R, L, run_imp (run_bd h) ?_⟩
  rintro v H1 ⟨ad1, S1, w1, l1, R1, r1, h1⟩
  unfold fldM at h1
  split at h1
  · split at h1
    · split at h1
      · rename_i hcc; cases hcc.1
      · exact h1.elim
    · rename_i hs
      split at h1
      · rename_i hcc
        cases r1 with
        | ref e1 =>
        obtain ⟨dx, vs, q1, q2, _, q3⟩ := R1.ob _ _ _ e1 hs
        split at h1
        · rename_i hv
          obtain ⟨v', hv', rv⟩ := q3.get hv
          rw [hcc.2] at q1
          exact ⟨_, _, dx, p, _, j, v', rfl, q1, F.cl, sp, by rw [List.getElem?_map, hv']; rfl, run_ok R1 rv h1⟩
        · exact h1.elim
      · exact h1.elim
    · exact h1.elim
  · exact h1.elim
theorem put_ins {K : PySem.W.Frag} {ad : List Addr} {H : Hp} {ws ws' : List W} {vs : List V} {w : W} {v : V} (F : FldOk m T cc j f) (r : RelWs K ad H ws vs) (rv : RelW K ad H w v) (hl : ws.length ≤ (T.fl cc).length) (e : putAt j w ws = some ws') :
    ∃ vs', putF f v ((T.fl cc).zip vs) = (T.fl cc).zip vs' ∧ ws'.length ≤ (T.fl cc).length ∧ RelWs K ad H ws' vs' := by
  unfold putAt at e
  split at e
  · rename_i h
    cases e
    exact ⟨vs.set j v, putF_zip_set F.nd F.at_ (by rw [← r.length]; exact h), by simpa using hl, r.set rv j⟩
  · split at e
    · rename_i h
      cases e
      refine ⟨vs ++ [v], putF_zip_new F.nd (by rw [← r.length, ← h]; exact F.at_), ?_, r.append (.cons rv .nil)⟩
      have := (List.getElem?_eq_some_iff.mp F.at_).1
      rw [List.length_append, List.length_singleton, ← h]
      omega
    · cases e
theorem putS_map {vs : List V} {v : V} {ws ws' : List W} {w : W} {K : PySem.W.Frag} {ad : List Addr} {H : Hp} (r : RelWs K ad H ws vs) (rv : RelW K ad H w v) (e : putAt j w ws = some ws') : ∃ vs', SlX.putS j v (vs.map some) = vs'.map some ∧ RelWs K ad H ws' vs' := by
  unfold putAt at e
  split at e
  · rename_i h
    cases e
    refine ⟨vs.set j v, ?_, r.set rv j⟩
    unfold SlX.putS
    have : j + 1 - (vs.map some).length = 0 := by rw [List.length_map, ← r.length]; omega
    rw [this]
    simp
  · split at e
    · rename_i h
      cases e
      refine ⟨vs ++ [v], ?_, r.append (.cons rv .nil)⟩
      unfold SlX.putS
      have : j + 1 - (vs.map some).length = 1 := by rw [List.length_map, ← r.length]; omega
      rw [this, List.set_append_right _ _ (by rw [List.length_map, ← r.length]; omega)]
      have : j - (vs.map some).length = 0 := by rw [List.length_map, ← r.length]; omega
      rw [this]
      simp
    · cases e
/-- o.f = e -/
theorem s_fld (F : FldOk m T cc j f) (ho : SE m T k c t sc N ow o fo) (he : SE m T k c t sc N ow e fe) (hs : ∀ env l, swapsWith e (some (.Attribute o f apos)) l env = pure false := by intro _ _; rfl) :
    SS m T k c t sc N ow (.Assign [.Attribute o f apos] e pos) (fun s => exS s (fe s) fun v => exS s (fo s) fun w => asgM (bd (setFldM false cc j w v) fun _ => ret s)) := fun X g Wx tk => by
  have ho := ho X g Wx tk
  have he := he X g Wx tk
  obtain ⟨rfl, _⟩ := g
  refine (ps_fld ho he (hs _ _)).imp fun D σ H h => ?_
  obtain ⟨ad, S, sl, R, L, h⟩ := h
  refine ⟨ad, S, sl, R, L, run_imp (run_exS L h) ?_⟩
  rintro v H1 ⟨ad1, S1, w1, l1, R1, r1, h1⟩
  refine ⟨ad1, S1, sl, R1, L.mono l1, run_imp (run_exS (L.mono l1) h1) ?_⟩
  rintro u H2 ⟨ad2, S2, w2, l2, R2, r2, h2⟩
  have h2 := runS_asg h2
  unfold bd setFldM at h2
  cases w2 with
  | ref i =>
    cases hs : S2[i]? with
    | none => simp only [hs] at h2; exact h2.elim
    | some ob =>
      cases ob with
      | ins c fs =>
        simp only [hs] at h2
        by_cases hcc : c = cc
        · subst hcc
          simp only [true_and, if_true] at h2
          cases hp : putAt j w1 fs with
          | none => simp only [hp] at h2; exact h2.elim
          | some fs' =>
            simp only [hp] at h2
            cases r2 with
            | ref e1 =>
            obtain ⟨dx, vs, q1, q2, q3⟩ := R2.ob _ _ _ e1 hs
            obtain ⟨vs', a1, a2, a3⟩ := put_ins F q3 (r1.mono l2) q2 hp
            refine ⟨_, _, dx, _, rfl, q1, F.cl, F.no, ?_, ?_⟩
            · have := F.few
              rw [List.length_zip, ← q3.length]
              omega
            · rw [a1]
              have b5 := But.upd (u := .ins (T.cls c) dx ((T.fl c).zip vs')) q1 trivial
              have l5 := b5.le (K := X.K) (fun o u z => by rw [q1] at z; cases z) (List.mem_of_getElem? e1) (R2.keen e1)
              exact h2 _ _ _ l5 (R2.write e1 b5 (fun o u z => by rw [q1] at z; cases z) ⟨dx, vs', upd_same, a2, a3.mono l5⟩) (((L.mono l1).mono l2).mono l5)
        · simp only [hcc, and_false, if_false] at h2; exact h2.elim
      | _ => simp only [hs] at h2; first | exact h2.elim | (simp at h2; exact h2.elim)
  | _ => exact h2.elim
/-- .. of an instance with slots -/
theorem s_slt (F : SltOk m T cc j f) (ho : SE m T k c t sc N ow o fo) (he : SE m T k c t sc N ow e fe) (hs : ∀ env l, swapsWith e (some (.Attribute o f apos)) l env = pure false := by intro _ _; rfl) :
    SS m T k c t sc N ow (.Assign [.Attribute o f apos] e pos) (fun s => exS s (fe s) fun v => exS s (fo s) fun w => asgM (bd (setFldM true cc j w v) fun _ => ret s)) := fun X g Wx tk => by
  have ho := ho X g Wx tk
  have he := he X g Wx tk
  obtain ⟨rfl, _⟩ := g
  obtain ⟨p, sp⟩ := F.sl
  refine (SlX.ps_sl ho he (hs _ _)).imp fun D σ H h => ?_
  obtain ⟨ad, S, sl, R, L, h⟩ := h
  refine ⟨ad, S, sl, R, L, run_imp (run_exS L h) ?_⟩
  rintro v H1 ⟨ad1, S1, w1, l1, R1, r1, h1⟩
  refine ⟨ad1, S1, sl, R1, L.mono l1, run_imp (run_exS (L.mono l1) h1) ?_⟩
  rintro u H2 ⟨ad2, S2, w2, l2, R2, r2, h2⟩
  have h2 := runS_asg h2
  unfold bd setFldM at h2
  cases w2 with
  | ref i =>
    cases hs : S2[i]? with
    | none => simp only [hs] at h2; exact h2.elim
    | some ob =>
      cases ob with
      | slo c fs =>
        simp only [hs] at h2
        by_cases hcc : c = cc
        · subst hcc
          simp only [true_and, if_true] at h2
          cases hp : putAt j w1 fs with
          | none => simp only [hp] at h2; exact h2.elim
          | some fs' =>
            simp only [hp] at h2
            cases r2 with
            | @ref _ a e1 =>
            obtain ⟨dx, vs, q1, q2, q4, q3⟩ := R2.ob _ _ _ e1 hs
            obtain ⟨vs', a1, a3⟩ := putS_map q3 (r1.mono l2) hp
            refine ⟨_, _, dx, p, _, j, rfl, q1, F.cl, sp, ?_⟩
            rw [a1]
            have hfz : ∀ o u, H2 a ≠ some (.frz o (.tup u)) := fun o u z => by
              rcases q1 with ⟨q, _⟩ | ⟨q, _⟩ <;> (rw [q] at z; cases z)
            have ndx : ∀ b u, H2 b = some u → (Keen u ∨ ∃ ws, u = .tup ws) → b ≠ dx := fun b u hb hk z => by
              subst z
              rcases q4 with q | q
              · rw [q] at hb; cases hb
                rcases hk with hk | ⟨_, hk⟩
                · exact hk
                · cases hk
              · rw [q] at hb; cases hb
                rcases hk with hk | ⟨_, hk⟩
                · exact hk
                · cases hk
            have nta : ∀ ws, H2 a ≠ some (.tup ws) := fun ws z => by
              rcases q1 with ⟨q, _⟩ | ⟨q, _⟩ <;> (rw [q] at z; cases z)
            have b5 : But a H2 (SlX.slH H2 a (T.cls c) dx (vs'.map some)) := by
              refine ⟨fun b o n ko e => ?_, fun b ws e => ?_, fun b n e => ?_, fun b x n e => ?_, fun b ps e => ?_⟩
              · rw [SlX.slH_ne n (ndx b o e (.inl ko))]; exact e
              · rw [SlX.slH_ne (fun z : b = a => nta ws (by rw [← z]; exact e)) (ndx b _ e (.inr ⟨ws, rfl⟩))]; exact e
              · unfold SlX.slH
                rw [upd_ne n]
                by_cases z : b = dx
                · rw [z, upd_same]
                  rw [z] at e
                  rcases q4 with q4 | q4 <;> (rw [q4] at e; cases e)
                  rfl
                · rw [upd_ne z]; exact e
              · unfold SlX.slH
                rw [upd_ne n]
                by_cases z : b = dx
                · rw [z, upd_same]; exact .inr rfl
                · rw [upd_ne z]; exact .inl e
              · have n1 : b ≠ a := fun z => by
                  rw [z] at e
                  rcases q1 with ⟨q, _⟩ | ⟨q, _⟩ <;> (rw [q] at e; cases e)
                have n2 : b ≠ dx := fun z => by
                  rw [z] at e
                  rcases q4 with q | q <;> (rw [q] at e; cases e)
                rw [SlX.slH_ne n1 n2]; exact e
            have l5 := b5.le (K := X.K) hfz (List.mem_of_getElem? e1) (R2.keen e1)
            refine h2 _ _ _ l5 (R2.write e1 b5 hfz ⟨dx, vs', SlX.slH_slt q2, q2, .inr ?_, a3.mono l5⟩) (((L.mono l1).mono l2).mono l5)
            unfold SlX.slH
            rw [upd_ne q2, upd_same]
        · simp only [hcc, and_false, if_false] at h2; exact h2.elim
      | _ => simp only [hs] at h2; first | exact h2.elim | (simp at h2; exact h2.elim)
  | _ => exact h2.elim
end
end RP

/-! RpJ: properties, own == and len, isinstance, built-in calls and methods. -/
namespace RP
open PySem L2
theorem FnM.raw {m : Mo} {T : Tab} {k : Nat} {f : Addr} {n : Nat} {g : List W → M W} (F : FnM m T k f n g) : FnR m.P m.w m.K m.mg m.base (CX m.P m.w) k f (spM T m.K g) := by
  obtain ⟨fd, ps, _, G, b⟩ := F.ok
  have h := FnOk.raw G b (.nil : Vals [] [])
  intro A outer s H us vs Q E hr e0 r hs
  exact h A outer s H us vs Q E hr e0 r (show spM T m.K g (vs ++ []) H Q E by rw [List.append_nil]; exact hs)
/-- it raises nothing -/
def Calm (g : List W → M W) : Prop := ∀ ws S x S', g ws S ≠ .ex x S'
section
variable {m : Mo} {T : Tab} {k : Nat} {c t : Bool} {sc : Scope} {N : List Str} {ow : Ow} {a b e o : Expr} {es : List Expr} {fo fe fa fb : Slots → M W} {fs : Slots → M (List W)} {pos p apos : Pos} {f : Str} {cc j n : Nat} {g1 : List W → M W} {ga : Addr}
theorem run_calm {K : PySem.W.Frag} {ad : List Addr} {H : Hp} {ws : List W} {S : Sto} {Q : VK} {E E' : XK} (hg : Calm g1) (h : run T K ad H (g1 ws S) Q E) : run T K ad H (g1 ws S) Q E' := by
  cases q : g1 ws S with
  | ok w S1 => rw [q] at h; exact h
  | ex x S1 => exact (hg _ _ _ _ q).elim
  | bad => rw [q] at h; exact h
/-- the property f of a class with slots -/
structure PropS (m : Mo) (T : Tab) (cc : Nat) (f : Str) (ga : Addr) : Prop where
  cl : SlX.SCls m.K (T.cls cc)
  pr : ∃ p, PySem.W.findIn m.K (.ref (T.cls cc)) f = some (some (.ref p)) ∧ PySem.W.specialIn m.K (.ref p) "__get__" = some (some (.builtin "property.__get__")) ∧ PySem.W.takesIn m.K (.ref p) = some true ∧ ∃ rest, PySem.W.recIn m.K p "property" = some (.ref ga :: rest)
def propM (sl : Bool) (cc : Nat) (g : List W → M W) (w : W) : M W := fun S => if clsOf S w = some (sl, cc) then g [w] S else .bad
theorem e_propS (hc : c = true) (P : PropS m T cc f ga) (F : FnM m T j ga n g1) (hg : Calm g1) (ho : SE m T k c t sc N ow o fo) (hj : j + 1 ≤ k := by decide) (hb : ∀ env, attributeBase o f env (eval o env) = eval o env := by intro _; rfl) :
    SE m T k c t sc N ow (.Attribute o f pos) (fun s => bd (fo s) (propM true cc g1)) := fun X g Wx tk => by
  have ho := ho X g Wx tk
  have room := (g.room hc).mono hj
  obtain ⟨rfl, _⟩ := g
  obtain ⟨p, p1, p2, p3, p4⟩ := P.pr
  refine ⟨fun pins s σ H Q I h => ?_⟩
  obtain ⟨ad, S, sl, R, L, h⟩ := h
  refine attr_of (hb _) (thn (ho.run pins s σ H _ I ⟨ad, S, sl, R, L, run_bd h⟩) fun u s1 ⟨xv, H1, I1, rx, ad1, S1, w1, l1, R1, r1, h1⟩ => ?_)
  unfold propM at h1
  split at h1
  · rename_i hcl
    obtain ⟨a, dx, vs, rfl, ea⟩ := clsOf_slo R1 r1 hcl
    obtain rfl : u = Value.ref a := rx
    refine SlX.getprop_sl (E := fun _ _ _ => False) I1 ea P.cl p1 p2 p3 p4 F.raw room (fun H s e s' z => ?_) ⟨ad1, S1, [w1], R1, .cons r1 .nil, run_calm hg h1⟩
    obtain ⟨_, _, _, _, _, _, _, _, _, _, _, _, z⟩ := z
    exact z
  · exact h1.elim
/-- .. of a class with a dict -/
structure PropI (m : Mo) (T : Tab) (cc : Nat) (f : Str) (ga : Addr) : Prop where
  cl : Cls m.K (T.cls cc)
  pr : ∃ p, PropOf m.K (T.cls cc) f p ga
/-! ### len -/
/-- len of a text, a list, a tuple, a dict -/
def lenM (ws : List W) : M W := fun S => match ws with
  | [.str x] => if x.length ≤ sizeLine then .ok (.int x.length) S else .bad
  | [.tup xs] => .ok (.int xs.length) S
  | [.ref i] => match seqOf S i with
    | some xs => .ok (.int xs.length) S
    | none => .bad
  | _ => .bad
theorem n_len : SN m T k c t sc N ow (.builtin "len") lenM := fun X g E pins s σ H xs us Q I r ⟨ad, S, ws, R, rw', h⟩ => by
  obtain ⟨rfl, _⟩ := g
  unfold lenM at h
  split at h
  · split at h
    · cases rw' with
      | cons r1 rr =>
      cases rr
      cases r1
      exact call_len pins s σ H _ us Q I r ⟨_, _, rfl, ⟨by assumption, rfl⟩, run_ok R (.int _) h⟩
    · exact h.elim
  · cases rw' with
    | cons r1 rr =>
    cases rr
    cases r1 with
    | tup s1 r2 => exact call_len pins s σ H _ us Q I r ⟨_, _, rfl, .inr ⟨_, s1, rfl⟩, by rw [← r2.length]; exact run_ok R (.int _) h⟩
  · cases rw' with
    | cons r1 rr =>
    cases rr
    cases r1 with
    | ref e1 =>
    split at h
    · rename_i hs
      obtain ⟨vs, q, r2⟩ := R.seq e1 hs
      exact call_len pins s σ H _ us Q I r ⟨_, _, rfl, .inl ⟨_, q, rfl⟩, by rw [← r2.length]; exact run_ok R (.int _) h⟩
    · exact h.elim
  · exact h.elim
/-- a built-in function by its name -/
theorem e_blt {x : Str} {id : String} {gg : List W → M W} (hn : SN m T k c t sc N ow (.builtin id) gg) (hm : m.mg x = none) (ha : SA m T k c t sc N ow (e :: es) fs) (hv : bootBuiltins x = some (.builtin id)) (hg : sc.names.lookup x = some .globalImplicit := by rfl) (hx : x ≠ "__name__" := by decide) (hdb : (x == ("__debug__" : Str)) = false := by decide)
    (he : ∀ env, starEach (e :: es) env = (false, eval e env) :: starEach es env := by intro _; rfl) (hpl : ∀ env, (backTo pos (starEach es env)).any (·.1) = false := by intro _; rfl) :
    SE m T k c t sc N ow (.Call (.Name x p) (e :: es) [] pos) (fun s => bd (fs s) gg) := fun X g Wx tk => by
  have em : X.mg = m.mg := by rw [← g.mo]; rfl
  refine ⟨fun pins s σ H Q I h => (pe_callB (hn X g fun c d H' => Wx c d σ H') (gl_of g hg) (by rw [em]; exact hm) hv (ha X g Wx tk) hx hdb (he _) (hpl _)).run pins s σ H Q I ?_⟩
  obtain ⟨ad, S, sl, R, L, h⟩ := h
  refine ⟨ad, S, sl, R, L, runA_imp (runA_bd h) ?_⟩
  rintro vs H1 ⟨ad1, S1, ws, l1, R1, r1, h1⟩
  exact ⟨ad1, S1, ws, R1, r1, h1⟩
theorem e_bty {x : Str} {id : String} {gg : List W → M W} (hn : SN m T k c t sc N ow (.type id) gg) (hm : m.mg x = none) (ha : SA m T k c t sc N ow (e :: es) fs) (hv : bootBuiltins x = some (.type id)) (hg : sc.names.lookup x = some .globalImplicit := by rfl) (hx : x ≠ "__name__" := by decide) (hdb : (x == ("__debug__" : Str)) = false := by decide)
    (he : ∀ env, starEach (e :: es) env = (false, eval e env) :: starEach es env := by intro _; rfl) (hpl : ∀ env, (backTo pos (starEach es env)).any (·.1) = false := by intro _; rfl) :
    SE m T k c t sc N ow (.Call (.Name x p) (e :: es) [] pos) (fun s => bd (fs s) gg) := fun X g Wx tk => by
  have em : X.mg = m.mg := by rw [← g.mo]; rfl
  refine ⟨fun pins s σ H Q I h => (pe_callTy (hn X g fun c d H' => Wx c d σ H') (gl_of g hg) (by rw [em]; exact hm) hv (ha X g Wx tk) hx hdb (he _) (hpl _)).run pins s σ H Q I ?_⟩
  obtain ⟨ad, S, sl, R, L, h⟩ := h
  refine ⟨ad, S, sl, R, L, runA_imp (runA_bd h) ?_⟩
  rintro vs H1 ⟨ad1, S1, ws, l1, R1, r1, h1⟩
  exact ⟨ad1, S1, ws, R1, r1, h1⟩
/-- a built-in type's name as a value -/
theorem e_ty {x : Str} {id : String} (hm : m.mg x = none) (hv : bootBuiltins x = some (.type id)) (hg : sc.names.lookup x = some .globalImplicit := by rfl) (hx : x ≠ "__name__" := by decide) (hdb : (x == ("__debug__" : Str)) = false := by decide) :
    SE m T k c t sc N ow (.Name x pos) (fun _ => ret (.ty id)) := e_const (v := .ty id) (fun X g => by
  have em : X.mg = m.mg := by rw [← g.mo]; rfl
  exact pe_bltn (gl_of g hg) (by rw [em]; exact hm) hv rfl hx hdb) fun _ _ => .ty id
/-! ### int, all -/
def intM (ws : List W) : M W := fun S => match ws with
  | [.int i] => .ok (.int i) S
  | [.bl b] => .ok (.int (if b then 1 else 0)) S
  | _ => .bad
theorem n_int : SN m T k c t sc N ow (.type "int") intM := fun X g E pins s σ H xs us Q I r ⟨ad, S, ws, R, rw', h⟩ => by
  obtain ⟨rfl, _⟩ := g
  unfold intM at h
  split at h
  · cases rw' with
    | cons r1 rr =>
    cases rr
    cases r1
    exact call_int1 pins s σ H _ us Q I r (.inl ⟨_, rfl, run_ok R (.int _) h⟩)
  · cases rw' with
    | cons r1 rr =>
    cases rr
    cases r1
    exact call_int1 pins s σ H _ us Q I r (.inr ⟨_, rfl, run_ok R (.int _) h⟩)
  · exact h.elim
/-- the bools of a list -/
def bools : List W → Option (List Bool)
  | [] => some []
  | .bl b :: r => (bools r).map (b :: ·)
  | _ => none
theorem bools_rel {K : PySem.W.Frag} {ad : List Addr} {H : Hp} : ∀ {ws : List W} {vs : List V} {bs : List Bool}, bools ws = some bs → RelWs K ad H ws vs → vs = bs.map V.bl
  | [], _, _, e, .nil => by cases e; rfl
  | w :: ws, _, bs, e, .cons r rr => by
    cases w <;> simp only [bools] at e <;> try cases e
    cases r
    cases q : bools ws with
    | none => rw [q] at e; cases e
    | some cs =>
      rw [q] at e
      cases e
      rw [bools_rel q rr]
      rfl
def allM (ws : List W) : M W := fun S => match ws with
  | [.ref i] => match seqOf S i with
    | some xs => match bools xs with
      | some bs => .ok (.bl (bs.all id)) S
      | none => .bad
    | none => .bad
  | _ => .bad
theorem n_all (hc : c = true) : SN m T k c t sc N ow (.builtin "all") allM := fun X g E pins s σ H xs us Q I r ⟨ad, S, ws, R, rw', h⟩ => by
  have calm := g.calm hc
  obtain ⟨rfl, _⟩ := g
  unfold allM at h
  split at h
  · cases rw' with
    | cons r1 rr =>
    cases rr
    cases r1 with
    | ref e1 =>
    split at h
    · rename_i hs
      split at h
      · rename_i bs hb
        obtain ⟨vs, q, r2⟩ := R.seq e1 hs
        rw [bools_rel hb r2] at q
        exact cr_all calm pins s σ H _ us Q I r ⟨_, bs, rfl, q, run_ok R (.bl _) h⟩
      · exact h.elim
    · exact h.elim
  · exact h.elim
end
end RP

/-! RpK: isinstance, methods of built-in types, subscripts, slices. -/
namespace RP
open PySem L2
section
variable {m : Mo} {T : Tab} {k : Nat} {c t : Bool} {sc : Scope} {N : List Str} {ow : Ow} {a b e o : Expr} {es : List Expr} {fo fe fa fb f1 f2 : Slots → M W} {fs : Slots → M (List W)} {pos p apos : Pos} {f : Str} {cc j n : Nat}
/-! ### isinstance -/
/-- the built-in type of a value -/
def tyN (S : Sto) : W → Option String
  | .non => some "NoneType"
  | .bl _ => some "bool"
  | .int _ => some "int"
  | .str _ => some "str"
  | .tup _ => some "tuple"
  | .ref i => match S[i]? with
    | some (.lst _) => some "list"
    | some (.scr _) => some "list"
    | some (.dct _) => some "dict"
    | _ => none
  | _ => none
theorem tyN_rel {K : PySem.W.Frag} {ad : List Addr} {H : Hp} {S : Sto} {w : W} {v : V} {n : String} (R : Rel T K ad H S) (r : RelW K ad H w v) (e : tyN S w = some n) : TyX K H v (.type n) := by
  cases r with
  | non => cases e; exact .base .non
  | bl b => cases e; exact .base (.bl b)
  | int b => cases e; exact .base (.int b)
  | str b => cases e; exact .base (.str b)
  | tup s r =>
    cases e
    rcases s with (s | ⟨o, s⟩) | ⟨o, its, n, s1, s2, _⟩
    · exact .base (.tup s)
    · exact .fTuple s
    · exact .kTuple s1 s2
  | ref e1 =>
    unfold tyN at e
    dsimp only at e
    split at e
    · rename_i h
      cases e
      obtain ⟨vs, h1, _⟩ := R.ob _ _ _ e1 h
      exact .base (.lst h1)
    · rename_i h
      cases e
      rcases R.ob _ _ _ e1 h with h1 | ⟨o, h1⟩
      · exact .base (.lst h1)
      · exact .base (.frz h1)
    · rename_i h
      cases e
      obtain ⟨vs, h1, _⟩ := R.ob _ _ _ e1 h
      exact .base (.dK h1)
    · cases e
  | adr a => cases e
  | ty n => cases e
  | lam _ _ => cases e
def isiM (ws : List W) : M W := fun S => match ws with
  | [x, .ty b] => match tyN S x with
    | some a => match kitB a b with
      | some r => .ok (.bl r) S
      | none => .bad
    | none => .bad
  | _ => .bad
theorem n_isi : SN m T k c t sc N ow (.builtin "isinstance") isiM := fun X g E pins s σ H xs us Q I r ⟨ad, S, ws, R, rw', h⟩ => by
  obtain ⟨rfl, _⟩ := g
  unfold isiM at h
  split at h
  · rename_i x bn
    match xs, rw' with
    | [v, _], .cons r1 (.cons (.ty _) .nil) =>
      split at h
      · rename_i an ha
        split at h
        · rename_i rb hk
          exact call_isi pins s σ H _ us Q I r ⟨v, _, _, _, rb, rfl, .ty bn, tyN_rel R r1 ha, kit_ty hk, run_ok R (.bl _) h⟩
        · exact h.elim
      · exact h.elim
  · exact h.elim
/-- isinstance(x, C), x an instance of the class C itself, with slots -/
structure IsiS (m : Mo) (T : Tab) (cc : Nat) : Prop where
  cl : SlX.SCls m.K (T.cls cc)
  si : SlX.SIsi m.K (T.cls cc)
  kit : PySem.W.kitOne m.K (.ref (T.cls cc)) (.ref (T.cls cc)) = some true
/-- a class of the text as a value -/
theorem e_cls {x : Str} {A : Addr} (hm : m.mg x = some (.ref A)) (hg : sc.names.lookup x = some .globalImplicit := by rfl) (hd : (x == ("__debug__" : Str)) = false := by decide) : SE m T k c t sc N ow (.Name x pos) (fun _ => ret (.adr A)) :=
  e_glob (v := .ref A) hm rfl (fun _ _ => .adr A) hg hd
/-! ### methods of built-in types -/
def rM (T : Tab) (K : PySem.W.Frag) (g : W → List W → M W) (E : XK) : V → List V → Hp → VK → Prop := fun x xs H Q => ∃ ad S w ws, Rel T K ad H S ∧ RelW K ad H w x ∧ RelWs K ad H ws xs ∧ run T K ad H (g w ws S) Q E
def SM (m : Mo) (T : Tab) (k : Nat) (c t : Bool) (sc : Scope) (N : List Str) (ow : Ow) (id : String) (g : W → List W → M W) : Prop := ∀ X, Good m k c t sc N ow X → ∀ E, MtR X id (rM T m.K g E)
def bmM (ty : String) (fo : M W) (fs : M (List W)) (g : W → List W → M W) : M W := bd fo fun w S => if tyN S w = some ty then bd fs (fun ws => g w ws) S else .bad
theorem tyN_tyV {K : PySem.W.Frag} {ad : List Addr} {H : Hp} {S : Sto} {w : W} {v : V} {n : String} (R : Rel T K ad H S) (r : RelW K ad H w v) (e : tyN S w = some n) (hn : n = "str" ∨ n = "list" ∨ n = "dict") : tyV K n v H := by
  have no : ∀ {s : String}, s ≠ "str" → s ≠ "list" → s ≠ "dict" → ¬ (some s = some n) := fun a b c z => by
    cases z
    rcases hn with h | h | h
    · exact a h
    · exact b h
    · exact c h
  cases r with
  | non => exact (no (by decide) (by decide) (by decide) e).elim
  | bl b => exact (no (by decide) (by decide) (by decide) e).elim
  | int b => exact (no (by decide) (by decide) (by decide) e).elim
  | str b => cases e; rfl
  | tup s r => exact (no (by decide) (by decide) (by decide) e).elim
  | ref e1 =>
    unfold tyN at e
    dsimp only at e
    split at e
    · rename_i h
      cases e
      obtain ⟨vs, h1, _⟩ := R.ob _ _ _ e1 h
      exact .inl ⟨rfl, _, SqL.of h1⟩
    · rename_i h
      cases e
      rcases R.ob _ _ _ e1 h with h1 | ⟨o, h1⟩
      · exact .inl ⟨rfl, _, SqL.of h1⟩
      · exact .inl ⟨rfl, _, .inl (.inr ⟨o, h1⟩)⟩
    · rename_i h
      cases e
      obtain ⟨vs, h1, _⟩ := R.ob _ _ _ e1 h
      exact .inr (.inr (.inl ⟨rfl, .inl ⟨_, h1⟩⟩))
    · cases e
  | adr a => cases e
  | ty n => cases e
  | lam _ _ => cases e
theorem e_bm {ty id : String} {nm : Str} {g1 : W → List W → M W} (pa : PlainAttrs ty) (slot : Slot ty nm id) (hty : typeOf (.builtin id) = pure (.type "method_descriptor")) (hm : SM m T k c t sc N ow id g1) (ho : SE m T k c t sc N ow o fo) (ha : SA m T k c t sc N ow (e :: es) fs) (hn : ty = "str" ∨ ty = "list" ∨ ty = "dict" := by decide)
    (hbase : ∀ env, attributeBase o nm env (eval o env) = eval o env := by intro _; rfl)
    (hfew : ∀ env, ((backTo pos (starEach (e :: es) env)).all (fun x => !x.1) && (backToKw pos (keywordEach [] env)).all (fun x => x.1.isSome)
      && decide ((e :: es).length + ([] : List Keyword).length + (if ([] : List Keyword).isEmpty then 0 else 1) < 30)) = true := by intro _; rfl)
    (hline : (apos.endLine == pos.line) = true := by rfl) (hs : ∀ env, starEach (e :: es) env = (false, eval e env) :: starEach es env := by intro _; rfl) (hplain : ∀ env, (backTo pos (starEach es env)).any (·.1) = false := by intro _; rfl) :
    SE m T k c t sc N ow (.Call (.Attribute o nm apos) (e :: es) [] pos) (fun s => bmM ty (fo s) (fs s) g1) := fun X g Wx tk => by
  have ek : X.K = m.K := by rw [← g.mo]; rfl
  refine ⟨fun pins s σ H Q I h => (pe_bm pa slot hty (hm X g fun c d H' => Wx c d σ H') (ho X g Wx tk) (ha X g Wx tk) (hbase _) (hfew _) hline (hs _) (hplain _)).run pins s σ H Q I ?_⟩
  obtain ⟨ad, S, sl, R, L, h⟩ := h
  refine ⟨ad, S, sl, R, L, run_imp (run_bd h) ?_⟩
  rintro v H1 ⟨ad1, S1, w1, l1, R1, r1, h1⟩
  split at h1
  · rename_i ht
    refine ⟨by rw [ek]; exact tyN_tyV R1 r1 ht hn, ad1, S1, sl, R1, L.mono l1, runA_imp (runA_bd h1) ?_⟩
    rintro vs H2 ⟨ad2, S2, ws, l2, R2, r2, h2⟩
    exact ⟨ad2, S2, w1, ws, R2, r1.mono l2, r2, h2⟩
  · exact h1.elim
theorem e_bm0 {ty id : String} {nm : Str} {g1 : W → List W → M W} (pa : PlainAttrs ty) (slot : Slot ty nm id) (hty : typeOf (.builtin id) = pure (.type "method_descriptor")) (hm : SM m T k c t sc N ow id g1) (ho : SE m T k c t sc N ow o fo) (hn : ty = "str" ∨ ty = "list" ∨ ty = "dict" := by decide)
    (hbase : ∀ env, attributeBase o nm env (eval o env) = eval o env := by intro _; rfl) (hline : (apos.endLine == pos.line) = true := by rfl) :
    SE m T k c t sc N ow (.Call (.Attribute o nm apos) [] [] pos) (fun s => bmM ty (fo s) (ret []) g1) := fun X g Wx tk => by
  have ek : X.K = m.K := by rw [← g.mo]; rfl
  refine ⟨fun pins s σ H Q I h => (pe_bm0 pa slot hty (hm X g fun c d H' => Wx c d σ H') (ho X g Wx tk) (hbase _) hline).run pins s σ H Q I ?_⟩
  obtain ⟨ad, S, sl, R, L, h⟩ := h
  refine ⟨ad, S, sl, R, L, run_imp (run_bd h) ?_⟩
  rintro v H1 ⟨ad1, S1, w1, l1, R1, r1, h1⟩
  split at h1
  · rename_i ht
    exact ⟨by rw [ek]; exact tyN_tyV R1 r1 ht hn, ad1, S1, w1, [], R1, r1, .nil, h1⟩
  · exact h1.elim
/-- the texts of a list -/
def textsOf : List W → Option (List Str)
  | [] => some []
  | .str b :: r => (textsOf r).map (b :: ·)
  | _ => none
theorem textsOf_rel {K : PySem.W.Frag} {ad : List Addr} {H : Hp} : ∀ {ws : List W} {vs : List V} {bs : List Str}, textsOf ws = some bs → RelWs K ad H ws vs → vs = bs.map V.str
  | [], _, _, e, .nil => by cases e; rfl
  | w :: ws, _, bs, e, .cons r rr => by
    cases w <;> simp only [textsOf] at e <;> try cases e
    cases r
    cases q : textsOf ws with
    | none => rw [q] at e; cases e
    | some cs =>
      rw [q] at e
      cases e
      rw [textsOf_rel q rr]
      rfl
def joinM (w : W) (ws : List W) : M W := fun S => match w, ws with
  | .str a, [.ref i] => match seqOf S i with
    | some xs => match textsOf xs with
      | some ys => if (ys.map (·.length)).sum + ys.length * a.length ≤ 16777216 then .ok (.str (Txt.join a ys)) S else .bad
      | none => .bad
    | none => .bad
  | _, _ => .bad
theorem m_join : SM m T k c t sc N ow "str.join" joinM := fun X g E pins s σ H x xs v us Q I rx rs ⟨ad, S, w, ws, R, rw', rws, h⟩ => by
  obtain ⟨rfl, _⟩ := g
  unfold joinM at h
  split at h
  · rename_i a i
    cases rw'
    match xs, rws with
    | [_], .cons (.ref e1) .nil =>
      split at h
      · rename_i ws hs
        split at h
        · rename_i ys hy
          split at h
          · rename_i hz
            obtain ⟨vs, q, r2⟩ := R.seq e1 hs
            rw [textsOf_rel hy r2] at q
            exact mt_join pins s σ H _ _ v us Q I rx rs ⟨a, _, ys, rfl, rfl, .inl q, hz, run_ok R (.str _) h⟩
          · exact h.elim
        · exact h.elim
      · exact h.elim
  · exact h.elim
def appendM (w : W) (ws : List W) : M W := fun S => match w, ws with
  | .ref i, [y] => match S[i]? with
    | some (.lst xs) => if xs.length < sizeLine then .ok .non (S.set i (.lst (xs ++ [y]))) else .bad
    | _ => .bad
  | _, _ => .bad
/-- a list of the state is written -/
theorem run_wlst {K : PySem.W.Frag} {ad : List Addr} {H : Hp} {S : Sto} {Q : VK} {E : XK} {i : Nat} {a : Addr} {ws : List W} {us vs : List V} {w : W} {v : V} (R : Rel T K ad H S) (e : ad[i]? = some a) (q : H a = some (.lst us)) (r : RelWs K ad H ws vs) (rv : RelW K ad H w v)
    (h : run T K ad H (.ok w (S.set i (.lst ws))) Q E) : Q v (upd H a (.lst vs)) := by
  have b5 := But.upd (u := .lst vs) q trivial
  have hf : ∀ o u, H a ≠ some (.frz o (.tup u)) := fun o u z => by rw [q] at z; cases z
  have l5 := b5.le (K := K) hf (List.mem_of_getElem? e) (R.keen e)
  exact h _ _ _ l5 (R.write e b5 hf ⟨vs, upd_same, r.mono l5⟩) (rv.mono l5)
theorem m_append : SM m T k c t sc N ow "list.append" appendM := fun X g E pins s σ H x xs v us Q I rx rs ⟨ad, S, w, ws, R, rw', rws, h⟩ => by
  obtain ⟨rfl, _⟩ := g
  unfold appendM at h
  split at h
  · cases rw' with
    | ref e1 =>
    match xs, rws with
    | [_], .cons ry .nil =>
      split at h
      · rename_i ys hs
        split at h
        · rename_i hz
          obtain ⟨vs, q, r2⟩ := R.lst e1 hs
          exact mt_append pins s σ H _ _ v us Q I rx rs ⟨_, vs, _, rfl, rfl, q, by rw [← r2.length]; exact hz, run_wlst R e1 q (r2.append (.cons ry .nil)) .non h⟩
        · exact h.elim
      · exact h.elim
  · exact h.elim
/-! ### subscripts -/
def ixM (w y : W) : M W := fun S => match w, y with
  | .tup xs, .int i => match atI xs i with
    | some v => .ok v S
    | none => .bad
  | .str z, .int i => match atI z.cps.toList i with
    | some cp => if z.length ≤ sizeLine then .ok (.str ⟨#[cp]⟩) S else .bad
    | none => .bad
  | .ref r, .int i => match seqOf S r with
    | some xs => match atI xs i with
      | some v => .ok v S
      | none => .bad
    | none => .bad
  | _, _ => .bad
theorem atI_rel {K : PySem.W.Frag} {ad : List Addr} {H : Hp} {ws : List W} {vs : List V} {i : Int} {w : W} (r : RelWs K ad H ws vs) (e : atI ws i = some w) : ∃ v, atI vs i = some v ∧ RelW K ad H w v := by
  unfold atI at e ⊢
  rw [← r.length]
  cases q : ixN ws.length i with
  | none => rw [q] at e; cases e
  | some j =>
    rw [q] at e
    obtain ⟨v, h1, h2⟩ := r.get e
    exact ⟨v, h1, h2⟩
theorem e_ix (ha : SE m T k c t sc N ow a fa) (hb : SE m T k c t sc N ow b fb) (hs : PlainIx b := by intro _ _; rfl) : SE m T k c t sc N ow (.Subscript a b pos) (fun s => bd (fa s) fun x => bd (fb s) fun y => ixM x y) := fun X g Wx tk => by
  have ha := ha X g Wx tk
  have hb := hb X g Wx tk
  obtain ⟨rfl, _⟩ := g
  refine (pe_ix ix_seq ha hb hs).imp fun σ H Q h => ?_
  obtain ⟨ad, S, sl, R, L, h⟩ := h
  refine ⟨ad, S, sl, R, L, run_imp (run_bd h) ?_⟩
  rintro v H1 ⟨ad1, S1, w1, l1, R1, r1, h1⟩
  refine ⟨ad1, S1, sl, R1, L.mono l1, run_imp (run_bd h1) ?_⟩
  rintro u H2 ⟨ad2, S2, w2, l2, R2, r2, h2⟩
  have r1 := r1.mono l2
  unfold ixM at h2
  split at h2
  · cases r2
    cases r1 with
    | tup s1 rr =>
    split at h2
    · rename_i he
      obtain ⟨v', q1, q2⟩ := atI_rel rr he
      exact .inr (.inl ⟨_, _, _, v', rfl, rfl, s1, q1, run_ok R2 q2 h2⟩)
    · exact h2.elim
  · cases r2
    cases r1
    split at h2
    · rename_i he
      split at h2
      · exact .inr (.inr ⟨_, _, _, rfl, rfl, by assumption, he, run_ok R2 (.str _) h2⟩)
      · exact h2.elim
    · exact h2.elim
  · cases r2
    cases r1 with
    | ref e1 =>
    split at h2
    · rename_i hsq
      split at h2
      · rename_i he
        obtain ⟨vs, q, rr⟩ := R2.seq e1 hsq
        obtain ⟨v', q1, q2⟩ := atI_rel rr he
        exact .inl ⟨_, _, _, v', rfl, rfl, q, q1, run_ok R2 q2 h2⟩
      · exact h2.elim
    · exact h2.elim
  · exact h2.elim
end
end RP

/-! RpL: slices, stores into lists, fields by an operator, own == and len. -/
namespace RP
open PySem L2
section
variable {m : Mo} {T : Tab} {k : Nat} {c t : Bool} {sc : Scope} {N : List Str} {ow : Ow} {a b e o : Expr} {lo hi : Option Expr} {fo fe fa fb : Slots → M W} {pos p p2 apos : Pos} {f : Str} {cc j n : Nat}
/-! ### slices -/
def runO (T : Tab) (K : PySem.W.Frag) (ad : List Addr) (H : Hp) (r : Res (Option Int)) (Q : Option Int → Hp → Prop) (E : XK) : Prop := match r with
  | .ok b S => ∀ ad' H', Le K ad H ad' H' → Rel T K ad' H' S → Q b H'
  | .ex x S => ∀ ad' H' cls d, Le K ad H ad' H' → Rel T K ad' H' S → RelX T K ad' H' x cls d → E cls d H'
  | .bad => False
def rdO (T : Tab) (K : PySem.W.Frag) (f : Slots → M (Option Int)) (Wx : WX) : TO := fun σ H Q => ∃ ad S sl, Rel T K ad H S ∧ RelSl K ad H sl σ ∧ runO T K ad H (f sl S) Q fun c d H' => Wx c d σ H'
def SO (m : Mo) (T : Tab) (k : Nat) (c t : Bool) (sc : Scope) (N : List Str) (ow : Ow) (e : Option Expr) (f : Slots → M (Option Int)) : Prop := ∀ X, Good m k c t sc N ow X → ∀ Wx, Takes X Wx → PO X e (rdO T m.K f Wx)
def partM (w : W) : M (Option Int) := fun S => match w with
  | .int i => .ok (some i) S
  | _ => .bad
theorem o_no : SO m T k c t sc N ow none (fun _ => ret none) := fun X g Wx tk => ⟨fun pins s σ H Q I h => po_none.run pins s σ H Q I (by
  obtain ⟨ad, S, sl, R, L, h⟩ := h
  exact h _ _ Le.refl R)⟩
theorem run_bdO {K : PySem.W.Frag} {ad : List Addr} {H : Hp} {mm : M W} {kk : W → M (Option Int)} {S : Sto} {Q : Option Int → Hp → Prop} {E : XK} (h : runO T K ad H (bd mm kk S) Q E) :
    run T K ad H (mm S) (fun v H1 => ∃ ad1 S1 w, Le K ad H ad1 H1 ∧ Rel T K ad1 H1 S1 ∧ RelW K ad1 H1 w v ∧ runO T K ad1 H1 (kk w S1) Q E) E := by
  unfold bd at h
  cases q : mm S with
  | ok w S1 =>
    rw [q] at h
    refine fun a b c l R r => ⟨a, S1, w, l, R, r, ?_⟩
    cases q2 : kk w S1 with
    | ok v S2 => simp only [q2] at h; exact fun a' b' l' => h a' b' (l.trans l')
    | ex x S2 => simp only [q2] at h; exact fun a' b' c' d' l' => h a' b' c' d' (l.trans l')
    | bad => simp only [q2] at h; exact h
  | ex x S => rw [q] at h; exact h
  | bad => rw [q] at h; exact h
theorem o_some (he : SE m T k c t sc N ow e fe) : SO m T k c t sc N ow (some e) (fun s => bd (fe s) partM) := fun X g Wx tk => ⟨fun pins s σ H Q I h => (po_some (he X g Wx tk)).run pins s σ H Q I (by
  obtain ⟨ad, S, sl, R, L, h⟩ := h
  refine ⟨ad, S, sl, R, L, run_imp (run_bdO h) ?_⟩
  rintro v H1 ⟨ad1, S1, w1, l1, R1, r1, h1⟩
  unfold partM at h1
  split at h1
  · cases r1
    exact ⟨_, rfl, h1 _ _ Le.refl R1⟩
  · exact h1.elim)⟩
/-- the items from lo to hi -/
def cutL {α : Type} (xs : List α) (lo hi : Option Int) : List α := (xs.drop (HT.sIx xs.length 0 lo)).take (HT.sIx xs.length xs.length hi - HT.sIx xs.length 0 lo)
theorem cut_rel {K : PySem.W.Frag} {ad : List Addr} {H : Hp} {ws : List W} {vs : List V} (r : RelWs K ad H ws vs) (lo hi : Option Int) : RelWs K ad H (cutL ws lo hi) (cutV vs lo hi) := by
  unfold cutL cutV
  rw [← r.length]
  exact (r.drop _).take _
def sliceM (w : W) (lo hi : Option Int) : M W := fun S => match w with
  | .str z => if z.length ≤ sizeLine then .ok (.str (cutS z lo hi)) S else .bad
  | .tup xs => .ok (.tup (cutL xs lo hi)) S
  | .ref i => match seqOf S i with
    | some xs => .ok (.ref S.length) (S ++ [.lst (cutL xs lo hi)])
    | none => .bad
  | _ => .bad
def bdO (m : M (Option Int)) (k : Option Int → M W) : M W := fun S => match m S with
  | .ok v S' => k v S'
  | .ex x S' => .ex x S'
  | .bad => .bad
theorem runO_bd {K : PySem.W.Frag} {ad : List Addr} {H : Hp} {mm : M (Option Int)} {kk : Option Int → M W} {S : Sto} {Q : VK} {E : XK} (h : run T K ad H (bdO mm kk S) Q E) :
    runO T K ad H (mm S) (fun v H1 => ∃ ad1 S1, Le K ad H ad1 H1 ∧ Rel T K ad1 H1 S1 ∧ run T K ad1 H1 (kk v S1) Q E) E := by
  unfold bdO at h
  cases q : mm S with
  | ok w S1 => rw [q] at h; exact fun a b l R => ⟨a, S1, l, R, run_mono l h⟩
  | ex x S => rw [q] at h; exact h
  | bad => rw [q] at h; exact h
theorem runO_imp {K : PySem.W.Frag} {ad : List Addr} {H : Hp} {r : Res (Option Int)} {Q Q' : Option Int → Hp → Prop} {E : XK} (h : runO T K ad H r Q E) (q : ∀ v H, Q v H → Q' v H) : runO T K ad H r Q' E := by
  cases r with
  | ok w S => exact fun a b l' R => q _ _ (h a b l' R)
  | ex x S => exact h
  | bad => exact h
theorem e_slice {fl fh : Slots → M (Option Int)} (he : SE m T k c t sc N ow e fe) (hl : SO m T k c t sc N ow lo fl) (hh : SO m T k c t sc N ow hi fh) : SE m T k c t sc N ow (.Subscript e (.Slice lo hi none p2) pos) (fun s => bd (fe s) fun w => bdO (fl s) fun l => bdO (fh s) fun h => sliceM w l h) := fun X g Wx tk => by
  have he := he X g Wx tk
  have hl := hl X g Wx tk
  have hh := hh X g Wx tk
  obtain ⟨rfl, _⟩ := g
  refine (pe_slice ((sl_list.or sl_tupA).or sl_str) he hl hh).imp fun σ H Q h => ?_
  obtain ⟨ad, S, sl, R, L, h⟩ := h
  refine ⟨ad, S, sl, R, L, run_imp (run_bd h) ?_⟩
  rintro v H1 ⟨ad1, S1, w1, l1, R1, r1, h1⟩
  refine ⟨ad1, S1, sl, R1, L.mono l1, runO_imp (runO_bd h1) ?_⟩
  rintro lv H2 ⟨ad2, S2, l2, R2, h2⟩
  refine ⟨ad2, S2, sl, R2, (L.mono l1).mono l2, runO_imp (runO_bd h2) ?_⟩
  rintro hv H3 ⟨ad3, S3, l3, R3, h3⟩
  have r1 := (r1.mono l2).mono l3
  unfold sliceM at h3
  split at h3
  · split at h3
    · cases r1
      exact .inr ⟨_, rfl, by assumption, run_ok R3 (.str _) h3⟩
    · exact h3.elim
  · cases r1 with
    | tup s1 rr =>
    refine .inl (.inr ⟨_, _, rfl, s1, fun hw => ?_, fun _ p hp => run_newtup R3 hp (cut_rel rr lv hv) h3⟩)
    rw [← rr.length] at hw
    have e : ∀ (zs : List W), HT.sIx zs.length 0 lv = 0 ∧ HT.sIx zs.length zs.length hv = zs.length → cutL zs lv hv = zs := fun zs hz => by
      unfold cutL
      rw [hz.1, hz.2]
      simp
    rw [e _ hw] at h3
    exact run_ok R3 (.tup s1 rr) h3
  · split at h3
    · rename_i hs
      cases r1 with
      | ref e1 =>
      obtain ⟨vs, q, rr⟩ := R3.seq e1 hs
      exact .inl (.inl ⟨_, _, rfl, q, fun p hp => run_newlst R3 hp (cut_rel rr lv hv) h3⟩)
    · exact h3.elim
  · exact h3.elim
/-! ### stores into lists -/
def setIxM (o i v : W) : M Unit := fun S => match o, i with
  | .ref r, .int n => match S[r]? with
    | some (.lst xs) => match ixN xs.length n with
      | some j => .ok () (S.set r (.lst (xs.set j v)))
      | none => .bad
    | _ => .bad
  | _, _ => .bad
theorem takes_no {X : Cx} : Takes X (fun _ _ _ _ => False) := fun u s' ⟨_, _, _, _, _, _, _, _, _, _, _, _, _, _, _, _, w⟩ => w.elim
theorem runG_bd {K : PySem.W.Frag} {ad : List Addr} {H : Hp} {mm : M W} {kk : W → M Slots} {S : Sto} {Q : St → Hp → Prop} {E : XK} (h : runG T K ad H (bd mm kk S) Q) :
    run T K ad H (mm S) (fun v H1 => ∃ ad1 S1 w, Le K ad H ad1 H1 ∧ Rel T K ad1 H1 S1 ∧ RelW K ad1 H1 w v ∧ runG T K ad1 H1 (kk w S1) Q) E := by
  unfold bd at h
  cases q : mm S with
  | ok w S1 => rw [q] at h; exact fun a b c l R r => ⟨a, S1, w, l, R, r, runG_mono l h⟩
  | ex x S => rw [q] at h; exact h.elim
  | bad => rw [q] at h; exact h.elim
theorem g_ix (ho : SE m T k c t sc N ow o fo) (hi : SE m T k c t sc N ow b fb)
    (ha : ∀ env v, assign (.Subscript o b pos) env v = (do
      let ov ← holding [v] (eval o env)
      let iv ← holding [v, ov] (eval b env)
      standAt pos
      holding [v, ov, iv] (setItem ov iv v)
      release [v, ov, iv] []) := by intro _ _; rfl) : SG m T k c t sc N ow (.Subscript o b pos) (fun v s => bd (fo s) fun w => bd (fb s) fun i => bd (setIxM w i v) fun _ => ret s) := fun X g => by
  have ho := ho X g _ takes_no
  have hi := hi X g _ takes_no
  obtain ⟨rfl, _⟩ := g
  refine (pg_sub ho hi set_list (ha _)).imp fun v σ H Q h => ?_
  obtain ⟨ad, S, sl, w, R, L, r, h⟩ := h
  refine ⟨ad, S, sl, R, L, run_imp (runG_bd h) ?_⟩
  rintro ov H1 ⟨ad1, S1, w1, l1, R1, r1, h1⟩
  refine ⟨ad1, S1, sl, R1, L.mono l1, run_imp (runG_bd h1) ?_⟩
  rintro iv H2 ⟨ad2, S2, w2, l2, R2, r2, h2⟩
  have r1 := r1.mono l2
  have r := (r.mono l1).mono l2
  unfold bd setIxM at h2
  cases w1 with
  | ref i =>
    cases w2 with
    | int n =>
      cases r2
      cases r1 with
      | ref e1 =>
      cases hs : S2[i]? with
      | none => simp only [hs] at h2; exact h2.elim
      | some ob =>
        cases ob with
        | lst xs =>
          simp only [hs] at h2
          cases hj : ixN xs.length n with
          | none => simp only [hj] at h2; exact h2.elim
          | some j =>
            simp only [hj] at h2
            obtain ⟨vs, q, rr⟩ := R2.lst e1 hs
            refine ⟨_, vs, n, j, rfl, rfl, q, by rw [← rr.length]; exact hj, ?_⟩
            have b5 := But.upd (u := .lst (vs.set j v)) q trivial
            have hf : ∀ o u, H2 _ ≠ some (.frz o (.tup u)) := fun o u z => by rw [q] at z; cases z
            have l5 := b5.le (K := X.K) hf (List.mem_of_getElem? e1) (R2.keen e1)
            exact h2 _ _ _ l5 (R2.write e1 b5 hf ⟨_, upd_same, (rr.set r j).mono l5⟩) (((L.mono l1).mono l2).mono l5)
        | _ => simp only [hs] at h2; exact h2.elim
    | _ => exact h2.elim
  | _ => cases w2 <;> exact h2.elim
/-! ### own ==, !=, len -/
structure EqS (m : Mo) (T : Tab) (cc : Nat) (ga : Addr) : Prop where
  eq : PySem.W.findIn m.K (.ref (T.cls cc)) "__eq__" = some (some (.ref ga))
  fn : PySem.W.isFn m.K (.ref ga) = true
  nf : PySem.W.notFirst m.K (T.cls cc) (.ref (T.cls cc)) = true
end
end RP

/-! RpM: own != and len. -/
namespace RP
open PySem PySem.Spec PyProof.Rows L2
section
variable {prog : Program} {w : World} {A : Around} {E : Value → Shared → Prop} {s : Shared} {K : PySem.W.Frag} {x y C f : Addr} {ox : Obj} {od : Option Obj}
end
section
variable {m : Mo} {T : Tab} {k : Nat} {c t : Bool} {sc : Scope} {N : List Str} {ow : Ow} {cc n : Nat} {ga : Addr} {g1 : List W → M W}
structure NeS (m : Mo) (T : Tab) (cc : Nat) : Prop where
  ne : PySem.W.findIn m.K (.ref (T.cls cc)) "__ne__" = some (some (.builtin "object.__ne__"))
  mro : PySem.W.mroIn m.K (T.cls cc) (.type "object") = some true
/-- len(x) by the class's own -/
structure LenS (m : Mo) (T : Tab) (cc : Nat) (ga : Addr) : Prop where
  ln : PySem.W.findIn m.K (.ref (T.cls cc)) "__len__" = some (some (.ref ga))
  fn : PySem.W.isFn m.K (.ref ga) = true
def lenOwnM (cc : Nat) (g : List W → M W) (ws : List W) : M W := fun S => match ws with
  | [x] => if clsOf S x = some (true, cc) then
      match g [x] S with
      | .ok (.int i) S' => if 0 ≤ i ∧ i < 2 ^ 63 then .ok (.int i) S' else .bad
      | _ => .bad
    else .bad
  | _ => .bad
theorem n_lenOwn {j : Nat} (hc : c = true) (Q : LenS m T cc ga) (F : FnM m T j ga n g1) (hj : j + 1 ≤ k := by decide) : SN m T k c t sc N ow (.builtin "len") (lenOwnM cc g1) := fun X g E pins s σ H xs us Q' I r ⟨ad, S, ws, R, rw', h⟩ => by
  have room := (g.room hc).mono hj
  obtain ⟨rfl, _⟩ := g
  unfold lenOwnM at h
  split at h
  · rename_i x
    split at h
    · rename_i hcl
      match xs, rw' with
      | [v], .cons r1 .nil =>
        obtain ⟨a, dx, vs, rfl, q1⟩ := clsOf_slo R r1 hcl
        obtain ⟨u, rfl, ru⟩ := vals1 r
        cases (show u = Value.ref a from ru)
        obtain ⟨sl, od, _, J, _⟩ := SlX.slt_inst I q1
        obtain ⟨mF, hF⟩ := I.fr
        refine PySem.W.len_K hF I.ok.mod.kin J Q.ln Q.fn ?_
        refine wpAny_call (codeAny_mono (F.raw X.A.in1 X.stack s H [.ref a] [.ref a] (fun v H1 => ∃ i, v = .int i ∧ (0 ≤ i ∧ i < 2 ^ 63) ∧ Q' (.int i) H1) (fun _ _ _ => False) room.in1 I.env0.in1 (.cons rfl .nil) ⟨ad, S, _, R, .cons r1 .nil, ?_⟩) fun r s' hq => ?_)
        · cases q : g1 [x] S with
          | ok w S1 =>
            rw [q] at h
            cases w with
            | int i =>
              simp only at h
              split at h
              · rename_i hi
                intro ad1 H1 v l1 R1 rv
                cases rv
                exact ⟨i, rfl, hi, h _ _ _ l1 R1 (.int i)⟩
              · exact h.elim
            | _ => exact h.elim
          | ex x S1 => rw [q] at h; exact h.elim
          | bad => rw [q] at h; exact h.elim
        · cases r with
          | error er =>
            obtain ⟨_, _, _, _, _, _, _, _, _, _, _, _, z⟩ := hq
            exact z.elim
          | ok fl =>
            cases fl with
            | ret u2 =>
              obtain ⟨v', H', I3, rv, i, rfl, hi, q3⟩ := I.after hq
              obtain ⟨tk, rfl⟩ := rv
              exact ⟨hi, .int i, H', I3.tok _, ⟨_, rfl⟩, q3⟩
            | next => exact False.elim hq
            | brk => exact False.elim hq
            | cont => exact False.elim hq
    · exact h.elim
  · exact h.elim
end
end RP

/-! RpN: stars in displays, constants of the module, isinstance of an own class. -/
namespace RP
open PySem L2
section
variable {m : Mo} {T : Tab} {k : Nat} {c t : Bool} {sc : Scope} {N : List Str} {ow : Ow} {e o : Expr} {es : List Expr} {fe fo : Slots → M W} {fs : Slots → M (List W)} {pos p p2 : Pos} {cc : Nat}
def starM (w : W) : M (List W) := fun S => match w with
  | .tup ws => .ok ws S
  | .ref i => match seqOf S i with
    | some ws => .ok ws S
    | none => .bad
  | _ => .bad
theorem a_star (he : SE m T k c t sc N ow e fe) (hr : SA m T k c t sc N ow es fs) (hs : ∀ env, starEach (.Starred e p :: es) env = (true, eval e env) :: starEach es env := by intro _; rfl) :
    SA m T k c t sc N ow (.Starred e p :: es) (fun s => bd (fe s) fun x => bd (starM x) fun xs => bd (fs s) fun ys => ret (xs ++ ys)) := fun X g Wx tk => by
  have he := he X g Wx tk
  have hr := hr X g Wx tk
  obtain ⟨rfl, _⟩ := g
  refine (StX.pa_star he hr (hs _)).imp fun σ H Q h => ?_
  obtain ⟨ad, S, sl, R, L, h⟩ := h
  refine ⟨ad, S, sl, R, L, run_imp (run_bdA h) ?_⟩
  rintro v H1 ⟨ad1, S1, w1, l1, R1, r1, h1⟩
  have fin : ∀ {ws : List W} {vs : List V}, RelWs X.K ad1 H1 ws vs → runA T X.K ad1 H1 (bd (fs sl) (fun ys => ret (ws ++ ys)) S1) Q (fun c d H' => Wx c d σ H') → rdA T X.K fs Wx σ H1 fun us H2 => Q (vs ++ us) H2 := fun {ws vs} rr h => by
    refine ⟨ad1, S1, sl, R1, L.mono l1, runA_imp (runA_bdA h) ?_⟩
    rintro us H2 ⟨ad2, S2, ys, l2, R2, r2, h2⟩
    exact h2 _ _ _ Le.refl R2 ((rr.mono l2).append r2)
  cases w1 with
  | tup ws =>
    cases r1 with
    | tup s1 rr => exact ⟨_, _, rfl, .inl s1, fin rr h1⟩
  | ref i =>
    cases r1 with
    | ref e1 =>
    unfold bd at h1
    simp only [starM] at h1
    cases hs : seqOf S1 i with
    | none => simp only [hs] at h1; exact h1.elim
    | some ws =>
      simp only [hs] at h1
      obtain ⟨vs, q, rr⟩ := R1.seq e1 hs
      exact ⟨_, _, rfl, .inr q, fin rr h1⟩
  | _ => exact h1.elim
/-- a text, a number of the module -/
theorem e_gstr {x v : Str} (hm : ∃ tk, m.mg x = some (.str v tk)) (hg : sc.names.lookup x = some .globalImplicit := by rfl) (hd : (x == ("__debug__" : Str)) = false := by decide) : SE m T k c t sc N ow (.Name x pos) (fun _ => ret (.str v)) := by
  obtain ⟨tk, hm⟩ := hm
  exact e_glob (v := .str v) hm ⟨tk, rfl⟩ (fun _ _ => .str v) hg hd
theorem e_gint {x : Str} {v : Int} (hm : ∃ tk, m.mg x = some (.int v tk)) (hg : sc.names.lookup x = some .globalImplicit := by rfl) (hd : (x == ("__debug__" : Str)) = false := by decide) : SE m T k c t sc N ow (.Name x pos) (fun _ => ret (.int v)) := by
  obtain ⟨tk, hm⟩ := hm
  exact e_glob (v := .int v) hm ⟨tk, rfl⟩ (fun _ _ => .int v) hg hd
theorem env_sc {X : Cx} (g : Good m k c t sc N ow X) : X.env = { X.env with scope := sc } := by rw [← g.hsc]
theorem h_le : ∀ X, Good m k c t sc N ow X → ∀ E, OpR X (compareOp .LtE) (r2 T m.K pyLe E) := fun X g E pins s σ H x y v u Q I rx ry ⟨ad, S, w, z, R, rw', rz, h⟩ => by
  unfold pyLe at h
  split at h
  · cases rw'; cases rz
    exact op_le pins s σ H _ _ v u Q I rx ry ⟨_, _, rfl, rfl, run_ok R (.bl _) h⟩
  · exact h.elim
/-- the names of a tuple target, decided -/
def namesC (sc : Scope) (N : List Str) (ow : Ow) (xs : List Str) (is : List Nat) : Bool :=
  xs.length == is.length && (xs.zip is).all fun p => decide (N[p.2]? = some p.1) && (decide (sc.names.lookup p.1 = some .local) || (decide (sc.names.lookup p.1 = some .cell) && decide (p.1 ∈ ow.fns)))
theorem names_at {xs : List Str} {is : List Nat} (h : namesC sc N ow xs is = true) : NamesAt sc N ow xs is := by
  unfold namesC at h
  rw [Bool.and_eq_true] at h
  have hl : xs.length = is.length := by simpa using h.1
  refine ⟨hl, fun j x i a b => ?_⟩
  have hm : (x, i) ∈ xs.zip is := by
    refine List.mem_iff_getElem?.mpr ⟨j, ?_⟩
    rw [List.getElem?_zip_eq_some]
    exact ⟨a, b⟩
  have q := List.all_eq_true.mp h.2 _ hm
  simp only [Bool.and_eq_true, Bool.or_eq_true, decide_eq_true_eq] at q
  refine ⟨q.1, ?_⟩
  rcases q.2 with z | z
  · exact .inl z
  · exact .inr z
end
end RP

/-! RpO: plain laws of the monad, for reading the functions of the defs. -/
namespace RP
open PySem L2
theorem fldM_calm (sl : Bool) (cc j : Nat) (w : W) (S : Sto) (x : Exn) (S' : Sto) : fldM sl cc j w S ≠ .ex x S' := by
  unfold fldM
  intro h
  split at h
  · split at h
    · split at h
      · split at h <;> cases h
      · cases h
    · split at h
      · split at h <;> cases h
      · cases h
    · cases h
  · cases h
theorem ixM_calm (w y : W) (S : Sto) (x : Exn) (S' : Sto) : ixM w y S ≠ .ex x S' := by
  unfold ixM
  intro h
  split at h
  · split at h <;> cases h
  · split at h
    · split at h <;> cases h
    · cases h
  · split at h
    · split at h <;> cases h
    · cases h
  · cases h
end RP

/-! RpP: equations for simp. -/
namespace RP
open PySem L2
section
variable {α β : Type} {S : Sto}
theorem ret_d (a : α) : RP.ret a S = .ok a S := rfl
theorem exS_d (sl : Slots) (m : M W) (k : W → M Fl) : exS sl m k S = (match m S with | .ok w S' => k w S' | .ex x S' => .ok (.xx x sl) S' | .bad => .bad) := rfl
theorem andW_d (x y : M W) : andW x y S = (match x S with | .ok (.bl true) S' => y S' | .ok (.bl false) S' => .ok (.bl false) S' | .ok _ _ => .bad | .ex x S' => .ex x S' | .bad => .bad) := by
  unfold andW bd
  cases x S with
  | ok w S' =>
    cases w with
    | bl b => cases b <;> rfl
    | _ => rfl
  | ex x S' => rfl
  | bad => rfl
theorem orW_d (x y : M W) : orW x y S = (match x S with | .ok (.bl true) S' => .ok (.bl true) S' | .ok (.bl false) S' => y S' | .ok _ _ => .bad | .ex x S' => .ex x S' | .bad => .bad) := by
  unfold orW bd
  cases x S with
  | ok w S' =>
    cases w with
    | bl b => cases b <;> rfl
    | _ => rfl
  | ex x S' => rfl
  | bad => rfl
theorem andT_d (x y : M Bool) : andT x y S = (match x S with | .ok true S' => y S' | .ok false S' => .ok false S' | .ex x S' => .ex x S' | .bad => .bad) := by
  unfold andT bd
  cases x S with
  | ok w S' => cases w <;> rfl
  | ex x S' => rfl
  | bad => rfl
theorem orT_d (x y : M Bool) : orT x y S = (match x S with | .ok true S' => .ok true S' | .ok false S' => y S' | .ex x S' => .ex x S' | .bad => .bad) := by
  unfold orT bd
  cases x S with
  | ok w S' => cases w <;> rfl
  | ex x S' => rfl
  | bad => rfl
theorem iteM_d (x : M Bool) (y z : M α) : iteM x y z S = (match x S with | .ok true S' => y S' | .ok false S' => z S' | .ex x S' => .ex x S' | .bad => .bad) := by
  unfold iteM bd
  cases x S with
  | ok w S' => cases w <;> rfl
  | ex x S' => rfl
  | bad => rfl
theorem ngW_b (b : Bool) : ngW (.bl b) S = .ok (.bl (!b)) S := rfl
theorem blM_b (b : Bool) : blM (.bl b) S = .ok b S := rfl
theorem truM_b (b : Bool) : truM (.bl b) S = .ok b S := rfl
theorem getSl_0 (w : W) (sl : Slots) : getSl 0 (some w :: sl) S = .ok w S := rfl
theorem getSl_s (i : Nat) (w : Option W) (sl : Slots) : getSl (i + 1) (w :: sl) S = getSl i sl S := rfl
theorem lstM_d (ws : List W) : lstM ws S = if ws.length ≤ sizeLine then .ok (.ref S.length) (S ++ [.lst ws]) else .bad := rfl
theorem tupM_d (ws : List W) : tupM ws S = if ws.length ≤ sizeLine then .ok (.tup ws) S else .bad := rfl
theorem add_ii (i j : Int) : pyAdd (.int i) (.int j) S = .ok (.int (i + j)) S := rfl
theorem add_ss (a b : Str) : pyAdd (.str a) (.str b) S = if a.length + b.length ≤ sizeLine then .ok (.str (a ++ b)) S else .bad := rfl
theorem sub_ii (i j : Int) : pySub (.int i) (.int j) S = .ok (.int (i - j)) S := rfl
theorem mul_ii (i j : Int) : pyMul (.int i) (.int j) S = if small64 i || small64 j then .ok (.int (i * j)) S else .bad := rfl
theorem fdiv_ii (i j : Int) : pyFdiv (.int i) (.int j) S = if 0 < j ∧ j < 1152921504606846976 then .ok (.int (i / j)) S else .bad := rfl
theorem mod_ii (i j : Int) : pyMod (.int i) (.int j) S = if 0 < j then .ok (.int (i % j)) S else .bad := rfl
theorem pow_ii (i j : Int) : pyPow (.int i) (.int j) S = if 0 ≤ j ∧ j ≤ 1000000 ∧ i.natAbs < 2 ^ 64 then .ok (.int (i ^ j.toNat)) S else .bad := rfl
theorem lt_ii (i j : Int) : pyLt (.int i) (.int j) S = .ok (.bl (decide (i < j))) S := rfl
theorem le_ii (i j : Int) : pyLe (.int i) (.int j) S = .ok (.bl (decide (i ≤ j))) S := rfl
theorem gt_ii (i j : Int) : pyGt (.int i) (.int j) S = .ok (.bl (decide (j < i))) S := rfl
theorem ge_ii (i j : Int) : pyGe (.int i) (.int j) S = .ok (.bl (decide (j ≤ i))) S := rfl
theorem eq_ii (i j : Int) : pyEq (.int i) (.int j) S = .ok (.bl (decide (i = j))) S := rfl
theorem ne_ii (i j : Int) : pyNe (.int i) (.int j) S = .ok (.bl (!decide (i = j))) S := rfl
theorem eq_ss (i j : Str) : pyEq (.str i) (.str j) S = .ok (.bl (decide (i = j))) S := rfl
theorem ne_ss (i j : Str) : pyNe (.str i) (.str j) S = .ok (.bl (!decide (i = j))) S := rfl
theorem intM_i (i : Int) : intM [.int i] S = .ok (.int i) S := rfl
theorem lenM_t (xs : List W) : lenM [.tup xs] S = .ok (.int xs.length) S := rfl
theorem lenM_r {i : Nat} {xs : List W} (h : seqOf S i = some xs) : lenM [.ref i] S = .ok (.int xs.length) S := by simp only [lenM, h]
theorem ixM_t (xs : List W) (i : Int) : ixM (.tup xs) (.int i) S = (match atI xs i with | some v => .ok v S | none => .bad) := rfl
theorem ixM_r {r : Nat} {xs : List W} (i : Int) (h : seqOf S r = some xs) : ixM (.ref r) (.int i) S = (match atI xs i with | some v => .ok v S | none => .bad) := by simp only [ixM, h] <;> (cases atI xs i <;> rfl)
theorem seq_lst {i : Nat} {xs : List W} (h : S[i]? = some (.lst xs)) : seqOf S i = some xs := by simp only [seqOf, h]
theorem seq_scr {i : Nat} {ns : List Int} (h : S[i]? = some (.scr ns)) : seqOf S i = some (ns.map W.int) := by simp only [seqOf, h]
theorem atI_n {xs : List α} {i : Nat} {v : α} (h : xs[i]? = some v) : atI xs (i : Int) = some v := atI_nat h
theorem seqV_s (x : Str) : seqV (.str x) S = .ok (fun _ => some (x.cps.toList.map fun n => W.str ⟨#[n]⟩)) S := rfl
theorem seqV_t (xs : List W) : seqV (.tup xs) S = .ok (fun _ => some xs) S := rfl
theorem in_1 (c : Nat) (b : Str) : pyIn (.str ⟨#[c]⟩) (.str b) S = .ok (.bl (decide (c ∈ b.cps.toList))) S := by
  show Res.ok (W.bl (inStr ⟨#[c]⟩ b)) S = _
  unfold inStr
  rw [PySem.StrLaws.found_one]
theorem tyN_lst {i : Nat} {xs : List W} (h : S[i]? = some (.lst xs)) : tyN S (.ref i) = some "list" := by simp only [tyN, h]
theorem add_rr {i j : Nat} {xs ys : List W} (h : S[i]? = some (.lst xs)) (h2 : S[j]? = some (.lst ys)) (hz : xs.length + ys.length ≤ sizeLine) : pyAdd (.ref i) (.ref j) S = .ok (.ref S.length) (S ++ [.lst (xs ++ ys)]) := by simp only [pyAdd, h, h2, hz, if_true]
theorem partM_i (i : Int) : partM (.int i) S = .ok (some i) S := rfl
theorem setIx_l {r : Nat} {xs : List W} {n : Int} {j : Nat} {v : W} (h : S[r]? = some (.lst xs)) (hj : ixN xs.length n = some j) : setIxM (.ref r) (.int n) v S = .ok () (S.set r (.lst (xs.set j v))) := by simp only [setIxM, h, hj]
end
theorem sizeLine_big : 4000000 ≤ sizeLine := by decide
theorem get_last {S : Sto} {o : Ob} : (S ++ [o])[S.length]? = some o := by simp
theorem get_app {S T : Sto} {i : Nat} {o : Ob} (h : S[i]? = some o) : (S ++ T)[i]? = some o := by
  rw [List.getElem?_append_left (List.getElem?_eq_some_iff.mp h).1]
  exact h
/-! ### what raises nothing -/
def CalmM {α : Type} (m : M α) : Prop := ∀ S x S', m S ≠ .ex x S'
theorem CalmM.bd {α β : Type} {m : M α} {k : α → M β} (h : CalmM m) (hk : ∀ a, CalmM (k a)) : CalmM (bd m k) := fun S x S' e => by
  unfold RP.bd at e
  split at e
  · exact hk _ _ _ _ e
  · rename_i q; exact h _ _ _ q
  · cases e
theorem CalmM.ret {α : Type} (a : α) : CalmM (RP.ret a) := fun S x S' e => by cases e
theorem CalmM.getSl (i : Nat) (sl : Slots) : CalmM (getSl i sl) := fun S x S' e => by
  unfold RP.getSl at e
  split at e <;> cases e
theorem CalmM.fld (sl : Bool) (cc j : Nat) (w : W) : CalmM (fldM sl cc j w) := fldM_calm sl cc j w
theorem CalmM.ix (w y : W) : CalmM (ixM w y) := ixM_calm w y
theorem CalmM.eq (w y : W) : CalmM (pyEq w y) := fun S x S' e => by
  unfold pyEq at e
  split at e <;> cases e
theorem CalmM.tup (ws : List W) : CalmM (tupM ws) := fun S x S' e => by
  unfold tupM at e
  split at e <;> cases e
theorem CalmM.len (ws : List W) : CalmM (lenM ws) := fun S x S' e => by
  unfold lenM at e
  split at e
  · split at e <;> cases e
  · cases e
  · split at e <;> cases e
  · cases e
theorem CalmM.and {x y : M W} (hx : CalmM x) (hy : CalmM y) : CalmM (andW x y) := fun S z S' e => by
  rw [andW_d] at e
  split at e
  · exact hy _ _ _ e
  · cases e
  · cases e
  · rename_i q; exact hx _ _ _ q
  · cases e
theorem calm_ret1 {L n : Nat} {f : Slots → M W} (h : ∀ sl, CalmM (f sl)) : Calm (bodyM L n fun sl => exS sl (f sl) fun w => RP.ret (.rt w)) := fun ws S x S' e => by
  unfold bodyM at e
  split at e
  · simp only [exS_d, ret_d] at e
    cases q : f (ws.map some ++ List.replicate (L - ws.length) none) S with
    | ok w S1 => simp only [q] at e; cases e
    | ex y S1 => exact h _ _ _ _ q
    | bad => simp only [q] at e; cases e
  · cases e
end RP

/-! RpQ: what a run comes to, by parts. -/
namespace RP
open PySem L2
abbrev XQ := Exn → Sto → Prop
abbrev XS := Exn → Slots → Sto → Prop
def HoD {α : Type} (r : Res α) (Q : α → Sto → Prop) (E : XQ) : Prop := match r with
  | .ok a S => Q a S
  | .ex x S => E x S
  | .bad => False
def HoSD (r : Res Fl) (Q : Fl → Sto → Prop) (E : XS) : Prop := match r with
  | .ok (.xx x sl) S => E x sl S
  | .ok f S => Q f S
  | _ => False
/-- a run ends well, or as E says (a structure: nothing runs it by itself) -/
structure Ho {α : Type} (r : Res α) (Q : α → Sto → Prop) (E : XQ) : Prop where
  h : HoD r Q E
structure HoS (r : Res Fl) (Q : Fl → Sto → Prop) (E : XS) : Prop where
  h : HoSD r Q E
theorem hoD {α : Type} {r : Res α} {Q : α → Sto → Prop} {E : XQ} : Ho r Q E ↔ HoD r Q E := ⟨fun a => a.h, fun a => ⟨a⟩⟩
theorem hosD {r : Res Fl} {Q : Fl → Sto → Prop} {E : XS} : HoS r Q E ↔ HoSD r Q E := ⟨fun a => a.h, fun a => ⟨a⟩⟩
def noX : XQ := fun _ _ => False
/-- what follows a statement -/
def nxt (k : Slots → M Fl) (R : Fl → Sto → Prop) (F : XS) : Fl → Sto → Prop := fun f S' => match f with
  | .nx sl => HoS (k sl S') R F
  | f => R f S'
/-- how a def ends -/
def fin (Q : W → Sto → Prop) : Fl → Sto → Prop := fun f S' => match f with
  | .nx _ => Q .non S'
  | .rt w => Q w S'
  | _ => False
section
variable {α β : Type} {S : Sto} {Q : β → Sto → Prop} {R : Fl → Sto → Prop} {E : XQ} {F : XS}
theorem Ho.imp {r : Res α} {Q Q' : α → Sto → Prop} (h : Ho r Q E) (q : ∀ a S, Q a S → Q' a S) : Ho r Q' E := by
  obtain ⟨h⟩ := h
  cases r with
  | ok a S => exact ⟨q a S h⟩
  | ex x S => exact ⟨h⟩
  | bad => exact h.elim
theorem Ho.ex {r : Res α} {Q : α → Sto → Prop} (h : Ho r Q noX) : ∃ a S, r = .ok a S ∧ Q a S := by
  obtain ⟨h⟩ := h
  cases r with
  | ok a S => exact ⟨a, S, rfl, h⟩
  | ex x S => exact h.elim
  | bad => exact h.elim
theorem Ho.of {r : Res α} {Q : α → Sto → Prop} {a : α} {S : Sto} (e : r = .ok a S) (h : Q a S) : Ho r Q E := by rw [e]; exact ⟨h⟩
/-- a call that is known by its promise -/
theorem Ho.call {r : Res α} {Q Q' : α → Sto → Prop} (h : Ho r Q noX) (q : ∀ a S, Q a S → Q' a S) : Ho r Q' E := by
  obtain ⟨h⟩ := h
  cases r with
  | ok a S => exact ⟨q a S h⟩
  | ex x S => exact h.elim
  | bad => exact h.elim
theorem ho_bad : Ho (.bad : Res β) Q E ↔ False := ⟨fun h => h.h, fun h => h.elim⟩
theorem ho_ok {a : β} : Ho (.ok a S) Q E ↔ Q a S := by simp only [hoD, hosD, HoD, HoSD, RP.ret]
theorem ho_ret {a : β} : Ho (RP.ret a S) Q E ↔ Q a S := by simp only [hoD, hosD, HoD, HoSD, RP.ret]
theorem ho_bd {m : M α} {k : α → M β} : Ho (bd m k S) Q E ↔ Ho (m S) (fun a S' => Ho (k a S') Q E) E := by
  unfold bd
  cases m S <;> simp only [hoD, hosD, HoD, HoSD, nxt, fin, noX]
theorem ho_bdI {m : M View} {k : View → M W} {Q : W → Sto → Prop} : Ho (bdI m k S) Q E ↔ Ho (m S) (fun a S' => Ho (k a S') Q E) E := by
  unfold bdI
  cases m S <;> simp only [hoD, hosD, HoD, HoSD, nxt, fin, noX]
theorem ho_bdO {m : M (Option Int)} {k : Option Int → M W} {Q : W → Sto → Prop} : Ho (bdO m k S) Q E ↔ Ho (m S) (fun a S' => Ho (k a S') Q E) E := by
  unfold bdO
  cases m S <;> simp only [hoD, hosD, HoD, HoSD, nxt, fin, noX]
theorem hos_nx {sl : Slots} : HoS (RP.ret (.nx sl) S) R F ↔ R (.nx sl) S := by simp only [hoD, hosD, HoD, HoSD, RP.ret]
theorem hos_rt {w : W} : HoS (RP.ret (.rt w) S) R F ↔ R (.rt w) S := by simp only [hoD, hosD, HoD, HoSD, RP.ret]
theorem hos_bk {sl : Slots} : HoS (RP.ret (.bk sl) S) R F ↔ R (.bk sl) S := by simp only [hoD, hosD, HoD, HoSD, RP.ret]
theorem hos_ct {sl : Slots} : HoS (RP.ret (.ct sl) S) R F ↔ R (.ct sl) S := by simp only [hoD, hosD, HoD, HoSD, RP.ret]
theorem hos_onx {sl : Slots} : HoS (.ok (.nx sl) S) R F ↔ R (.nx sl) S := by simp only [hoD, hosD, HoD, HoSD, RP.ret]
theorem hos_ort {w : W} : HoS (.ok (.rt w) S) R F ↔ R (.rt w) S := by simp only [hoD, hosD, HoD, HoSD, RP.ret]
theorem hos_exS {sl : Slots} {m : M W} {k : W → M Fl} : HoS (exS sl m k S) R F ↔ Ho (m S) (fun a S' => HoS (k a S') R F) fun x S' => F x sl S' := by
  unfold exS
  cases m S <;> simp only [hoD, hosD, HoD, HoSD, nxt, fin, noX]
theorem hos_exT {sl : Slots} {m : M Bool} {k : Bool → M Fl} : HoS (exT sl m k S) R F ↔ Ho (m S) (fun a S' => HoS (k a S') R F) fun x S' => F x sl S' := by
  unfold exT
  cases m S <;> simp only [hoD, hosD, HoD, HoSD, nxt, fin, noX]
theorem hos_exA {sl : Slots} {m : M (List W)} {k : List W → M Fl} : HoS (exA sl m k S) R F ↔ Ho (m S) (fun a S' => HoS (k a S') R F) fun x S' => F x sl S' := by
  unfold exA
  cases m S <;> simp only [hoD, hosD, HoD, HoSD, nxt, fin, noX]
theorem hos_exI {sl : Slots} {m : M View} {k : View → M Fl} : HoS (exI sl m k S) R F ↔ Ho (m S) (fun a S' => HoS (k a S') R F) fun x S' => F x sl S' := by
  unfold exI
  cases m S <;> simp only [hoD, hosD, HoD, HoSD, nxt, fin, noX]
theorem nxt_nx {k : Slots → M Fl} {sl : Slots} : nxt k R F (.nx sl) S ↔ HoS (k sl S) R F := Iff.rfl
theorem nxt_rt {k : Slots → M Fl} {w : W} : nxt k R F (.rt w) S ↔ R (.rt w) S := Iff.rfl
theorem nxt_bk {k : Slots → M Fl} {w : Slots} : nxt k R F (.bk w) S ↔ R (.bk w) S := Iff.rfl
theorem nxt_ct {k : Slots → M Fl} {w : Slots} : nxt k R F (.ct w) S ↔ R (.ct w) S := Iff.rfl
theorem hos_seq {m : M Fl} {k : Slots → M Fl} : HoS (seqM m k S) R F ↔ HoS (m S) (nxt k R F) F := by
  unfold seqM
  cases m S with
  | ok f S' => cases f <;> simp only [hoD, hosD, HoD, HoSD, nxt, fin, noX]
  | ex x S' => simp only [hoD, hosD, HoD, HoSD, nxt, fin, noX]
  | bad => simp only [hoD, hosD, HoD, HoSD, nxt, fin, noX]
theorem hos_asg {g : M Slots} : HoS (asgM g S) R F ↔ Ho (g S) (fun sl S' => R (.nx sl) S') noX := by
  unfold asgM
  cases g S <;> simp only [hoD, hosD, HoD, HoSD, nxt, fin, noX]
theorem fin_nx {Q : W → Sto → Prop} {sl : Slots} : fin Q (.nx sl) S ↔ Q .non S := Iff.rfl
theorem fin_rt {Q : W → Sto → Prop} {w : W} : fin Q (.rt w) S ↔ Q w S := Iff.rfl
theorem ho_body {L n : Nat} {fb : Slots → M Fl} {ws : List W} {Q : W → Sto → Prop} (hn : ws.length = n) :
    Ho (bodyM L n fb ws S) Q E ↔ HoS (fb (ws.map some ++ List.replicate (L - ws.length) none) S) (fin Q) fun x _ S' => E x S' := by
  unfold bodyM
  rw [if_pos hn]
  cases fb (ws.map some ++ List.replicate (L - ws.length) none) S with
  | ok f S' => cases f <;> simp only [hoD, hosD, HoD, HoSD, nxt, fin, noX]
  | ex x S' => simp only [hoD, hosD, HoD, HoSD, nxt, fin, noX]
  | bad => simp only [hoD, hosD, HoD, HoSD, nxt, fin, noX]
theorem ho_body1 {L : Nat} {fb : Slots → M Fl} {a : W} {Q : W → Sto → Prop} : Ho (bodyM L 1 fb [a] S) Q E ↔ HoS (fb (some a :: List.replicate (L - 1) none) S) (fin Q) fun x _ S' => E x S' := ho_body rfl
theorem ho_body2 {L : Nat} {fb : Slots → M Fl} {a b : W} {Q : W → Sto → Prop} : Ho (bodyM L 2 fb [a, b] S) Q E ↔ HoS (fb (some a :: some b :: List.replicate (L - 2) none) S) (fin Q) fun x _ S' => E x S' := ho_body rfl
theorem ho_body3 {L : Nat} {fb : Slots → M Fl} {a b c : W} {Q : W → Sto → Prop} : Ho (bodyM L 3 fb [a, b, c] S) Q E ↔ HoS (fb (some a :: some b :: some c :: List.replicate (L - 3) none) S) (fin Q) fun x _ S' => E x S' := ho_body rfl
theorem ho_body4 {L : Nat} {fb : Slots → M Fl} {a b c d : W} {Q : W → Sto → Prop} : Ho (bodyM L 4 fb [a, b, c, d] S) Q E ↔ HoS (fb (some a :: some b :: some c :: some d :: List.replicate (L - 4) none) S) (fin Q) fun x _ S' => E x S' := ho_body rfl
theorem ho_meth {sl : Bool} {cc : Nat} {fo : M W} {fs : M (List W)} {g : List W → M W} {Q : W → Sto → Prop} : Ho (methM sl cc fo fs g S) Q E ↔ Ho (fo S) (fun w S' => clsOf S' w = some (sl, cc) ∧ Ho (fs S') (fun ws S2 => Ho (g (w :: ws) S2) Q E) E) E := by
  unfold methM
  rw [ho_bd]
  cases fo S with
  | ok w S' =>
    rw [ho_ok, ho_ok]
    by_cases h : clsOf S' w = some (sl, cc)
    · rw [if_pos h, ho_bd]
      exact ⟨fun q => ⟨h, q⟩, fun q => q.2⟩
    · rw [if_neg h]
      exact ⟨fun q => (hoD.mp q).elim, fun q => absurd q.1 h⟩
  | ex x S' => simp only [hoD, hosD, HoD, HoSD, nxt, fin, noX]
  | bad => simp only [hoD, hosD, HoD, HoSD, nxt, fin, noX]
theorem ho_bm {ty : String} {fo : M W} {fs : M (List W)} {g : W → List W → M W} {Q : W → Sto → Prop} : Ho (bmM ty fo fs g S) Q E ↔ Ho (fo S) (fun w S' => tyN S' w = some ty ∧ Ho (fs S') (fun ws S2 => Ho (g w ws S2) Q E) E) E := by
  unfold bmM
  rw [ho_bd]
  cases fo S with
  | ok w S' =>
    rw [ho_ok, ho_ok]
    by_cases h : tyN S' w = some ty
    · rw [if_pos h, ho_bd]
      exact ⟨fun q => ⟨h, q⟩, fun q => q.2⟩
    · rw [if_neg h]
      exact ⟨fun q => (hoD.mp q).elim, fun q => absurd q.1 h⟩
  | ex x S' => simp only [hoD, hosD, HoD, HoSD, nxt, fin, noX]
  | bad => simp only [hoD, hosD, HoD, HoSD, nxt, fin, noX]
theorem ho_prop {sl : Bool} {cc : Nat} {g : List W → M W} {w : W} {Q : W → Sto → Prop} : Ho (propM sl cc g w S) Q E ↔ clsOf S w = some (sl, cc) ∧ Ho (g [w] S) Q E := by
  unfold propM
  by_cases h : clsOf S w = some (sl, cc)
  · rw [if_pos h]; exact ⟨fun q => ⟨h, q⟩, fun q => q.2⟩
  · rw [if_neg h]; exact ⟨fun q => (hoD.mp q).elim, fun q => absurd q.1 h⟩
theorem ho_if {p : Prop} [Decidable p] {r : Res β} : Ho (if p then r else .bad) Q E ↔ p ∧ Ho r Q E := by
  by_cases h : p
  · rw [if_pos h]; exact ⟨fun q => ⟨h, q⟩, fun q => q.2⟩
  · rw [if_neg h]; exact ⟨fun q => (hoD.mp q).elim, fun q => absurd q.1 h⟩
theorem hos_if {p : Prop} [Decidable p] {r : Res Fl} : HoS (if p then r else .bad) R F ↔ p ∧ HoS r R F := by
  by_cases h : p
  · rw [if_pos h]; exact ⟨fun q => ⟨h, q⟩, fun q => q.2⟩
  · rw [if_neg h]; exact ⟨fun q => (hosD.mp q).elim, fun q => absurd q.1 h⟩
theorem ho_and {x y : M W} {Q : W → Sto → Prop} : Ho (andW x y S) Q E ↔ Ho (x S) (fun w S' => match w with | .bl true => Ho (y S') Q E | .bl false => Q (.bl false) S' | _ => False) E := by
  rw [andW_d]
  cases x S with
  | ok w S' =>
    cases w with
    | bl b => cases b <;> simp only [hoD, hosD, HoD, HoSD, nxt, fin, noX]
    | _ => simp only [hoD, hosD, HoD, HoSD, nxt, fin, noX]
  | ex x S' => simp only [hoD, hosD, HoD, HoSD, nxt, fin, noX]
  | bad => simp only [hoD, hosD, HoD, HoSD, nxt, fin, noX]
theorem ho_or {x y : M W} {Q : W → Sto → Prop} : Ho (orW x y S) Q E ↔ Ho (x S) (fun w S' => match w with | .bl true => Q (.bl true) S' | .bl false => Ho (y S') Q E | _ => False) E := by
  rw [orW_d]
  cases x S with
  | ok w S' =>
    cases w with
    | bl b => cases b <;> simp only [hoD, hosD, HoD, HoSD, nxt, fin, noX]
    | _ => simp only [hoD, hosD, HoD, HoSD, nxt, fin, noX]
  | ex x S' => simp only [hoD, hosD, HoD, HoSD, nxt, fin, noX]
  | bad => simp only [hoD, hosD, HoD, HoSD, nxt, fin, noX]
theorem ho_andT {x y : M Bool} {Q : Bool → Sto → Prop} : Ho (andT x y S) Q E ↔ Ho (x S) (fun w S' => match w with | true => Ho (y S') Q E | false => Q false S') E := by
  rw [andT_d]
  cases x S with
  | ok w S' => cases w <;> simp only [hoD, hosD, HoD, HoSD, nxt, fin, noX]
  | ex x S' => simp only [hoD, hosD, HoD, HoSD, nxt, fin, noX]
  | bad => simp only [hoD, hosD, HoD, HoSD, nxt, fin, noX]
theorem ho_orT {x y : M Bool} {Q : Bool → Sto → Prop} : Ho (orT x y S) Q E ↔ Ho (x S) (fun w S' => match w with | true => Q true S' | false => Ho (y S') Q E) E := by
  rw [orT_d]
  cases x S with
  | ok w S' => cases w <;> simp only [hoD, hosD, HoD, HoSD, nxt, fin, noX]
  | ex x S' => simp only [hoD, hosD, HoD, HoSD, nxt, fin, noX]
  | bad => simp only [hoD, hosD, HoD, HoSD, nxt, fin, noX]
theorem ho_ite {x : M Bool} {y z : M β} : Ho (iteM x y z S) Q E ↔ Ho (x S) (fun w S' => match w with | true => Ho (y S') Q E | false => Ho (z S') Q E) E := by
  rw [iteM_d]
  cases x S with
  | ok w S' => cases w <;> simp only [hoD, hosD, HoD, HoSD, nxt, fin, noX]
  | ex x S' => simp only [hoD, hosD, HoD, HoSD, nxt, fin, noX]
  | bad => simp only [hoD, hosD, HoD, HoSD, nxt, fin, noX]
theorem ho_chain {g1 g2 : W → W → M W} {fa fb fd : M W} {Q : W → Sto → Prop} : Ho (chainM g1 g2 fa fb fd S) Q E ↔ Ho (fa S) (fun x S1 => Ho (fb S1) (fun y S2 => Ho (g1 x y S2) (fun z S3 => match z with | .bl true => Ho (fd S3) (fun w S4 => Ho (g2 y w S4) Q E) E | .bl false => Q (.bl false) S3 | _ => False) E) E) E := by
  unfold chainM
  simp only [ho_bd]
  cases fa S with
  | ok x S1 =>
    simp only [ho_ok]
    cases fb S1 with
    | ok y S2 =>
      simp only [ho_ok]
      cases g1 x y S2 with
      | ok z S3 =>
        cases z with
        | bl b => cases b with
          | true => simp only [ho_ok, ho_bd]
          | false => simp only [hoD, HoD, RP.ret]
        | _ => simp only [hoD, HoD, stuck]
      | ex x S' => simp only [hoD, hosD, HoD, HoSD, nxt, fin, noX]
      | bad => simp only [hoD, hosD, HoD, HoSD, nxt, fin, noX]
    | ex x S' => simp only [hoD, hosD, HoD, HoSD, nxt, fin, noX]
    | bad => simp only [hoD, hosD, HoD, HoSD, nxt, fin, noX]
  | ex x S' => simp only [hoD, hosD, HoD, HoSD, nxt, fin, noX]
  | bad => simp only [hoD, hosD, HoD, HoSD, nxt, fin, noX]
end
/-! ### frames: all but the place r stays -/
structure Fr (r : Nat) (S S' : Sto) : Prop where
  len : S.length ≤ S'.length
  get : ∀ i o, i ≠ r → S[i]? = some o → S'[i]? = some o
theorem Fr.refl {r : Nat} {S : Sto} : Fr r S S := ⟨Nat.le_refl _, fun _ _ _ h => h⟩
theorem Fr.trans {r : Nat} {S S1 S2 : Sto} (a : Fr r S S1) (b : Fr r S1 S2) : Fr r S S2 := ⟨Nat.le_trans a.len b.len, fun i o n h => b.get i o n (a.get i o n h)⟩
theorem Fr.set {r : Nat} {S : Sto} {o : Ob} : Fr r S (S.set r o) := ⟨by simp, fun i u n h => by rw [List.getElem?_set_ne (Ne.symm n)]; exact h⟩
theorem Fr.app {r : Nat} {S T : Sto} : Fr r S (S ++ T) := ⟨by simp, fun i u n h => get_app h⟩
/-- nothing is changed, things are new -/
def Ext (S S' : Sto) : Prop := S <+: S'
theorem Ext.get {S S' : Sto} (e : S <+: S') {i : Nat} {o : Ob} (h : S[i]? = some o) : S'[i]? = some o := by
  obtain ⟨t, rfl⟩ := e
  exact get_app h
theorem Ext.fr {r : Nat} {S S' : Sto} (e : S <+: S') : Fr r S S' := by
  obtain ⟨t, rfl⟩ := e
  exact Fr.app
/-- the laws' row: the script, the place, the mix, the rest -/
def Row (S : Sto) (r : Nat) : Prop := ∃ sc ns i a b, S[r]? = some (.lst [.ref sc, .int i, .int a, .int b]) ∧ sc ≠ r ∧ S[sc]? = some (.scr ns) ∧ 0 ≤ i
theorem Row.fr {S S' : Sto} {r : Nat} (h : Row S r) (e : S <+: S') : Row S' r := by
  obtain ⟨sc, ns, i, a, b, h1, h2, h3, h4⟩ := h
  exact ⟨sc, ns, i, a, b, Ext.get e h1, h2, Ext.get e h3, h4⟩
end RP

/-! RpR: texts of signs, lists of numbers. -/
namespace RP
open PySem L2
def one (c : Nat) : Str := ⟨#[c]⟩
def txt (l : List Nat) : Str := ⟨l.toArray⟩
theorem mapM_ints (n : Nat) (S : Sto) : ∀ l : List Int, (l.map W.int).mapM (dat n S) = some (l.map PyData.int)
  | [] => by simp
  | i :: l => by
    rw [List.map_cons, List.mapM_cons, mapM_ints n S l]
    cases n <;> rfl
end RP
namespace RP
open PySem L2
section
variable {S : Sto} {sl : Slots} {R : Fl → Sto → Prop} {F : XS} {P : Nat → Slots → Sto → Prop} {n : Nat}
end
end RP

/-! RpS: the law's def at the end. -/
namespace RP
open PySem L2
/-- no list is written in K -/
def notLst (v : Value) : Bool := match v with
  | .type n => !(n == "list")
  | _ => true
def noList (K : PySem.W.Frag) : Bool := K.all fun p => notLst p.2.cls
theorem lookup_mem {K : PySem.W.Frag} {a : Addr} {o : Obj} (h : K.lookup a = some o) : (a, o) ∈ K := by
  induction K with
  | nil => cases h
  | cons p K ih =>
    obtain ⟨b, u⟩ := p
    rw [List.lookup_cons] at h
    split at h
    · rename_i e
      cases h
      rw [beq_iff_eq.mp e]
      exact List.mem_cons_self
    · exact List.mem_cons_of_mem _ (ih h)
theorem cx_no {P : Program} {w : World} {outer : List Env} {H : Hp} {s : Shared} {u : Value} {s' : Shared} (h : CX P w outer H s (fun _ _ _ => False) u s') : False := by
  obtain ⟨a, B, H', cls, d, _, _, _, _, _, _, _, z⟩ := h
  exact z
end RP

/-! RpT: list(x), tuple(x); three names set at once. -/
namespace RP
open PySem L2
section
variable {m : Mo} {T : Tab} {k : Nat} {c t : Bool} {sc : Scope} {N : List Str} {ow : Ow}
def listM (ws : List W) : M W := fun S => match ws with
  | [.str x] => if x.length ≤ sizeLine then .ok (.ref S.length) (S ++ [.lst (x.cps.toList.map fun n => W.str ⟨#[n]⟩)]) else .bad
  | [.tup xs] => .ok (.ref S.length) (S ++ [.lst xs])
  | [.ref i] => match seqOf S i with
    | some xs => .ok (.ref S.length) (S ++ [.lst xs])
    | none => .bad
  | _ => .bad
theorem rel_signs {K : PySem.W.Frag} {ad : List Addr} {H : Hp} : ∀ l : List Nat, RelWs K ad H (l.map fun n => W.str ⟨#[n]⟩) (l.map fun n => V.str ⟨#[n]⟩)
  | [] => .nil
  | n :: l => .cons (.str _) (rel_signs l)
theorem n_list (hc : c = true) : SN m T k c t sc N ow (.type "list") listM := fun X g E pins s σ H xs us Q I r ⟨ad, S, ws, R, rw', h⟩ => by
  have cm := g.calm hc
  obtain ⟨rfl, _⟩ := g
  unfold listM at h
  split at h
  · rename_i x
    match xs, rw' with
    | [_], .cons (.str _) .nil =>
      split at h
      · rename_i hz
        obtain ⟨u, rfl, ru⟩ := vals1 r
        obtain ⟨tk, rfl⟩ := ru
        refine PySem.call_list_str (I.ok.hd cm) x tk (fun h' tk' acc c' hk e hi => ?_) hz
        have hz' : x.cps.size ≤ sizeLine := hz
        refine ⟨.ref s.heap.objs.size, upd H s.heap.objs.size (.lst (x.cps.toList.map fun n => V.str ⟨#[n]⟩)), I.laid hk (Nat.le_refl _) ⟨by simpa using hz', acc.toList, c', ?_, by rw [Array.toArray_toList]; exact e⟩, rfl, ?_⟩
        · refine vals_of_idx _ _ (by simpa using hi.1) fun j u hj => ?_
          obtain ⟨cp, t', hc', rfl⟩ := hi.2 j u (by rw [← Array.getElem?_toList]; exact hj)
          exact ⟨.str ⟨#[cp]⟩, by simp [hc'], ⟨_, rfl⟩⟩
        · exact run_newlst R (I.hok.fresh (Nat.le_refl _)) (rel_signs _) h
      · exact h.elim
  · match xs, rw' with
    | [_], .cons (.tup s1 r1) .nil => exact call_list_of pins s σ H _ us Q I r ⟨_, _, rfl, .inr s1, fun l hl => run_newlst R hl r1 h⟩
  · rename_i i
    match xs, rw' with
    | [_], .cons (.ref e1) .nil =>
      split at h
      · rename_i ys hs
        obtain ⟨vs, q, r2⟩ := R.seq e1 hs
        exact call_list_of pins s σ H _ us Q I r ⟨_, _, rfl, .inl q, fun l hl => run_newlst R hl r2 h⟩
      · exact h.elim
  · exact h.elim
def tupleM (ws : List W) : M W := fun S => match ws with
  | [.tup xs] => .ok (.tup xs) S
  | [.ref i] => match seqOf S i with
    | some xs => .ok (.tup xs) S
    | none => .bad
  | _ => .bad
theorem n_tuple : SN m T k c t sc N ow (.type "tuple") tupleM := fun X g E pins s σ H xs us Q I r ⟨ad, S, ws, R, rw', h⟩ => by
  obtain ⟨rfl, _⟩ := g
  unfold tupleM at h
  split at h
  · match xs, rw' with
    | [_], .cons (.tup s1 r1) .nil => exact call_tuple_of pins s σ H _ us Q I r ⟨_, _, rfl, .inr ⟨s1, run_ok R (.tup s1 r1) h⟩⟩
  · match xs, rw' with
    | [_], .cons (.ref e1) .nil =>
      split at h
      · rename_i ys hs
        obtain ⟨vs, q, r2⟩ := R.seq e1 hs
        exact call_tuple_of pins s σ H _ us Q I r ⟨_, _, rfl, .inl ⟨q, fun l hl => run_newtup R hl r2 h⟩⟩
      · exact h.elim
  · exact h.elim
end
end RP

/-! RpU: enumerate(x), zip(x, y) over lists, tuples, texts. -/
namespace RP
open PySem L2 PySem.Spec PyProof.Rows
/-- what is walked -/
inductive Src where
  | lst (a : Addr) | tup (a : Addr) | txt (x : Str)
def Src.val : Src → V
  | .lst a => .ref a
  | .tup a => .ref a
  | .txt x => .str x
def Src.adr : Src → Option Addr
  | .lst a => some a
  | .tup a => some a
  | .txt _ => none
def SrcAt (K : PySem.W.Frag) (H : Hp) : Src → List V → Prop
  | .lst a, xs => SqL K H a xs
  | .tup a, xs => SqT K H a xs
  | .txt x, xs => xs = x.cps.toList.map fun n => V.str ⟨#[n]⟩
def ItAt (h : Heap) (p : Addr) : Src → Nat → Prop
  | .lst a, i => h.IsListIter p a i
  | .tup a, i => h.IsTupleIter p a i
  | .txt x, i => ∃ t, h.IsStrIter p (strIterType x) x t i
theorem ItAt.at_ {h h' : Heap} {p : Addr} {src : Src} {i : Nat} (z : ItAt h p src i) (e : ∀ o, h.get? p = some o → h'.get? p = some o) : ItAt h' p src i := by
  cases src with
  | lst a => exact Heap.IsListIter.at z e
  | tup a => exact Heap.IsTupleIter.at z e
  | txt x =>
    obtain ⟨t, o, ho, r⟩ := z
    exact ⟨t, o, e _ ho, r⟩
theorem ItAt.obj {h : Heap} {p : Addr} {src : Src} {i : Nat} (z : ItAt h p src i) : ∃ o n vs, h.get? p = some o ∧ o.cls = .type n ∧ n ≠ "list" ∧ n ≠ "tuple" ∧ n ≠ "zip" ∧ n ≠ "enumerate" ∧ o.data = .fields vs := by
  cases src with
  | lst a =>
    obtain ⟨o, ho, hc, hd⟩ := z
    exact ⟨o, _, _, ho, hc, by decide, by decide, by decide, by decide, hd⟩
  | tup a =>
    obtain ⟨o, ho, hc, hd⟩ := z
    exact ⟨o, _, _, ho, hc, by decide, by decide, by decide, by decide, hd⟩
  | txt x =>
    obtain ⟨t, o, ho, hc, hd⟩ := z
    refine ⟨o, _, _, ho, hc, ?_, ?_, ?_, ?_, hd⟩ <;> · unfold strIterType; split <;> decide
section
variable {prog : Program} {w : World} {A : Around}
theorem past_list (hh : A.handled = none) (p l : Addr) (its : Array Value) (i : Nat) (hx : its[i]? = none) : Draws prog w A p [p, l] i (fun _ _ => False) (fun j h => j = i ∧ h.IsListIter p l i ∧ h.IsList l its) where
  live := fun _ _ z => let ⟨o, ho, _⟩ := z.2.1; ⟨o, ho⟩
  frame := fun _ _ _ z hk => ⟨z.1, z.2.1.at fun o e => hk p (by simp) o e, z.2.2.at fun o e => hk l (by simp) o e⟩
  item := fun j s Q E hj z _ => absurd z.1 (Nat.ne_of_lt hj)
  done := fun s Q E z hE => wpAny_nextOf_list_end hh z.2.1 z.2.2 hx hE
theorem past_tup (hh : A.handled = none) (p l : Addr) (its : Array Value) (i : Nat) (hx : its[i]? = none) : Draws prog w A p [p, l] i (fun _ _ => False) (fun j h => j = i ∧ h.IsTupleIter p l i ∧ h.IsTuple l its) where
  live := fun _ _ z => let ⟨o, ho, _⟩ := z.2.1; ⟨o, ho⟩
  frame := fun _ _ _ z hk => ⟨z.1, z.2.1.at fun o e => hk p (by simp) o e, z.2.2.at fun o e => hk l (by simp) o e⟩
  item := fun j s Q E hj z _ => absurd z.1 (Nat.ne_of_lt hj)
  done := fun s Q E z hE => wpAny_nextOf_tuple_end hh z.2.1 z.2.2 hx hE
theorem past_txt (hh : A.handled = none) (p : Addr) (x : Str) (t : Tok) (i : Nat) (hx : x.cps[i]? = none) : Draws prog w A p [p] i (fun _ _ => False) (fun j h => j = i ∧ h.IsStrIter p (strIterType x) x t i) where
  live := fun _ _ z => let ⟨o, ho, _⟩ := z.2; ⟨o, ho⟩
  frame := fun _ _ _ z hk => ⟨z.1, let ⟨o, ho, r⟩ := z.2; ⟨o, hk p (by simp) o ho, r⟩⟩
  item := fun j s Q E hj z _ => absurd z.1 (Nat.ne_of_lt hj)
  done := fun s Q E z hE => by
    have z2 := z.2
    cases ha : x.cps.all (· < 128)
    · simp only [strIterType, ha, Bool.false_eq_true, if_false] at z2
      exact wpAny_nextOf_wide_end hh z2 hx hE
    · simp only [strIterType, ha, if_true] at z2
      exact wpAny_nextOf_ascii_end hh z2 hx hE
end
/-- the iterator as the library draws from it, at turn i -/
theorem src_draws {X : Cx} {pins : List (Addr × Obj)} {σ : L2.St} {H : Hp} {s : Shared} (I : Inv X pins σ H s) (hh : X.A.handled = none) {src : Src} {xs : List V} {p : Addr} {i : Nat} (hs : SrcAt X.K H src xs) (hi : ItAt s.heap p src i) :
    ∃ (fp : List Addr) (n : Nat) (P : Nat → Value → Prop) (St : Nat → Heap → Prop), Draws X.prog X.w X.A.in1 p fp n P St ∧ St i s.heap ∧ p ∈ fp ∧ (i < xs.length → i < n) ∧ (xs.length ≤ i → i = n) ∧ i ≤ n ∧
      (∀ v, P i v → ∃ x, xs[i]? = some x ∧ RelV x v) ∧ (∀ h, St (i + 1) h → ItAt h p src (i + 1)) ∧ ∀ b ∈ fp, b = p ∨ (src.adr = some b ∧ ∃ o, s.heap.get? b = some o ∧ (o.cls = .type "list" ∨ o.cls = .type "tuple")) := by
  have h1 : X.A.in1.handled = none := hh
  cases src with
  | lst a =>
    obtain ⟨its, rv, pl, hz⟩ := I.list hs
    have hl := rv.length
    obtain ⟨o, ho, hc, m, hd⟩ := pl.isList
    have hne : a ≠ p := fun z => by
      obtain ⟨o2, n2, _, g, c2, d2, _⟩ := hi.obj
      rw [← z, ho] at g
      cases g
      rw [hc] at c2
      cases c2
      exact d2 rfl
    have hb : ∀ b ∈ [p, a], b = p ∨ (some a = some b ∧ ∃ o, s.heap.get? b = some o ∧ (o.cls = .type "list" ∨ o.cls = .type "tuple")) := fun b hb => by
      rcases List.mem_cons.mp hb with z | z
      · exact .inl z
      · rw [List.mem_singleton.mp z]; exact .inr ⟨rfl, o, ho, .inl hc⟩
    by_cases hlt : i < xs.length
    · refine ⟨[p, a], _, _, _, Draws.list h1 p a hne its.toArray, ⟨hi, pl.isList⟩, by simp, fun _ => by simp; omega, fun z => absurd hlt (by omega), by simp; omega, fun v hv => ?_, fun h z => z.1, hb⟩
      obtain ⟨u, hu, ru⟩ := rv.get (List.getElem?_eq_getElem hlt)
      have hv2 : its[i]? = some v := by simpa using hv
      rw [hu] at hv2
      cases hv2
      exact ⟨_, List.getElem?_eq_getElem hlt, ru⟩
    · refine ⟨[p, a], i, _, _, past_list h1 p a its.toArray i (by simp; omega), ⟨rfl, hi, pl.isList⟩, by simp, fun z => absurd z hlt, fun _ => rfl, Nat.le_refl _, fun v hv => hv.elim, fun h z => absurd z.1 (by omega), hb⟩
  | tup a =>
    obtain ⟨its, rv, pl, hz⟩ := I.tuple hs
    have hl := rv.length
    obtain ⟨o, ho, hc, m, hd⟩ := id pl
    have hne : a ≠ p := fun z => by
      obtain ⟨o2, n2, _, g, c2, _, d2, _⟩ := hi.obj
      rw [← z, ho] at g
      cases g
      rw [hc] at c2
      cases c2
      exact d2 rfl
    have hb : ∀ b ∈ [p, a], b = p ∨ (some a = some b ∧ ∃ o, s.heap.get? b = some o ∧ (o.cls = .type "list" ∨ o.cls = .type "tuple")) := fun b hb => by
      rcases List.mem_cons.mp hb with z | z
      · exact .inl z
      · rw [List.mem_singleton.mp z]; exact .inr ⟨rfl, o, ho, .inr hc⟩
    by_cases hlt : i < xs.length
    · refine ⟨[p, a], _, _, _, Draws.tuple h1 p a hne its.toArray, ⟨hi, pl⟩, by simp, fun _ => by simp; omega, fun z => absurd hlt (by omega), by simp; omega, fun v hv => ?_, fun h z => z.1, hb⟩
      obtain ⟨u, hu, ru⟩ := rv.get (List.getElem?_eq_getElem hlt)
      have hv2 : its[i]? = some v := by simpa using hv
      rw [hu] at hv2
      cases hv2
      exact ⟨_, List.getElem?_eq_getElem hlt, ru⟩
    · refine ⟨[p, a], i, _, _, past_tup h1 p a its.toArray i (by simp; omega), ⟨rfl, hi, pl⟩, by simp, fun z => absurd z hlt, fun _ => rfl, Nat.le_refl _, fun v hv => hv.elim, fun h z => absurd z.1 (by omega), hb⟩
  | txt x =>
    obtain ⟨t, hi⟩ := hi
    have hs : xs = x.cps.toList.map fun n => V.str ⟨#[n]⟩ := hs
    have hl : xs.length = x.cps.size := by rw [hs]; simp
    have hb : ∀ b ∈ [p], b = p ∨ ((none : Option Addr) = some b ∧ ∃ o, s.heap.get? b = some o ∧ (o.cls = .type "list" ∨ o.cls = .type "tuple")) := fun b hb => .inl (List.mem_singleton.mp hb)
    by_cases hlt : i < xs.length
    · refine ⟨[p], _, _, _, Draws.text h1 p x t, hi, by simp, fun _ => by omega, fun z => absurd hlt (by omega), by omega, fun v hv => ?_, fun h z => ⟨t, z⟩, hb⟩
      obtain ⟨c, u, h2, rfl⟩ := hv
      exact ⟨.str ⟨#[c]⟩, by rw [hs]; simp [h2], ⟨_, rfl⟩⟩
    · refine ⟨[p], i, _, _, past_txt h1 p x t i (by simp; omega), ⟨rfl, hi⟩, by simp, fun z => absurd z hlt, fun _ => rfl, Nat.le_refl _, fun v hv => hv.elim, fun h z => absurd z.1 (by omega), hb⟩
theorem src_inj {X : Cx} {pins : List (Addr × Obj)} {σ : L2.St} {H : Hp} {s : Shared} (I : Inv X pins σ H s) {src : Src} {xs ys : List V} (h : SrcAt X.K H src xs) (h' : SrcAt X.K H src ys) : xs = ys := by
  cases src with
  | lst a => exact I.list_inj h h'
  | tup a => exact I.tuple_inj h h'
  | txt x => exact Eq.trans h (Eq.symm h')
/-! ### enumerate -/
def ItE (K : PySem.W.Frag) (src : Src) : It :=
  ⟨fun i H => ∃ (xs : List V) (x : V), SrcAt K H src xs ∧ xs[i]? = some x, fun i H v H' => ∃ q x, v = .ref q ∧ H q = none ∧ H' = upd H q (.tup [.int (i : Nat), x]) ∧ ∀ xs, SrcAt K H src xs → xs[i]? = some x, fun i H => ∃ xs : List V, SrcAt K H src xs ∧ xs.length ≤ i⟩
theorem turn_enumS {P : Program} {w : World} {K : PySem.W.Frag} {elts : List Expr} {kk : Nat} {tpos : Pos} (src : Src) (e p : Addr) :
    Turn P w K (.Tuple elts kk tpos) (ItE K src) [e, p] e (fun i h => (∃ old, IsEnum h e p ((i : Nat) : Int) old) ∧ ItAt h p src i ∧ e ≠ p) where
  mem := by simp
  obj := fun i h z b hb => by
    obtain ⟨⟨old, he⟩, hp, _⟩ := z
    obtain ⟨o, _, _, ho, _, _, _, _, _, hd⟩ := hp.obj
    rcases List.mem_cons.mp hb with q | q
    · rw [q]; exact ⟨_, he, fun v y => nomatch y⟩
    · rw [List.mem_singleton.mp q]; exact ⟨o, ho, fun v y => by rw [hd] at y; cases y⟩
  keep := fun i h h' z k => ⟨⟨z.1.choose, k e (by simp) _ z.1.choose_spec⟩, z.2.1.at_ fun o y => k p (by simp) o y, z.2.2⟩
  item := by
    intro X hP hw hK hc i pins s σ H E I hf z hg
    subst hP hw hK
    obtain ⟨⟨old, he⟩, hp, hne⟩ := z
    obtain ⟨xs, x, hq, hx⟩ := hg
    obtain ⟨fp, n, Pd, St, D, st, hm, lt, _, _, hP, hS, hfp⟩ := src_draws I (I.ok.hd hc) hq hp
    have hel : e < s.heap.objs.size := Heap.lt_size he
    have hpl : p < s.heap.objs.size := let ⟨_, _, _, y, _⟩ := hp.obj; Heap.lt_size y
    have hef : e ∉ fp := fun y => by
      rcases hfp e y with q | ⟨_, o, q, c⟩
      · exact hne q
      · rw [he] at q
        cases q
        rcases c with c | c <;> exact absurd (Value.type.inj c) (by decide)
    refine wpAny_pyNext_enum_itemD D he st (lt (List.getElem?_eq_some_iff.mp hx).1) hne hef fun u h1 tk pu ho st1 hT hsz hk => ?_
    obtain ⟨x', hx', ru⟩ := hP u pu
    rw [hx] at hx'
    cases hx'
    refine ⟨_, rfl, wpAny_letOwnedTupleGo_enum (s := { s with heap := h1, toks := tk + 1 }) ho fun h2 he2 sb => ?_⟩
    have hT2 : h2.get? s.heap.objs.size = some { cls := .type "tuple", data := .seq #[.int i tk, u] } := (sb.2 _ (Nat.ne_of_gt hel)).trans hT
    have made : ObjOk X.prog X.w (upd H s.heap.objs.size (.tup [.int (i : Nat), x])) h2 s.heap.objs.size (.tup [.int (i : Nat), x]) :=
      ⟨by show 2 ≤ sizeLine; decide, [.int i tk, u], .cons ⟨_, rfl⟩ (.cons ru .nil), ⟨_, hT2, rfl, _, rfl⟩⟩
    have I1 : Inv X pins σ (upd H s.heap.objs.size (.tup [.int (i : Nat), x])) { s with heap := h2, toks := tk + 1 } :=
      I.turnedNew (ch := [e, p]) (fun b ob hb y => (sb.2 b (fun q => hb (by simp [q]))).trans (hk b ob (fun q => hb (by simp [q])) (fun q => hb (by simp [q])) y)) hf (Nat.le_refl _) made
    refine ⟨.ref s.heap.objs.size, _, I1, rfl, ⟨_, x, rfl, I.hok.fresh (Nat.le_refl _), rfl, fun ys hy => by rw [src_inj I hy hq]; exact hx⟩, ⟨⟨u, ?_⟩, (hS _ st1).at_ fun o y => (sb.2 p (Ne.symm hne)).trans y, hne⟩, fun b hb => ?_⟩
    · rw [show ((i + 1 : Nat) : Int) = (i : Int) + 1 by omega]; exact he2
    · have hb2 : b < s.heap.objs.size := by
        rcases List.mem_cons.mp hb with q | q
        · rw [q]; exact hel
        · rw [List.mem_singleton.mp q]; exact hpl
      rw [upd_ne (Nat.ne_of_lt hb2)]
      exact (hf b hb).1
  done := by
    intro X hP hw hK hc i pins s σ H E I hf z hg
    subst hP hw hK
    obtain ⟨⟨old, he⟩, hp, hne⟩ := z
    obtain ⟨xs, hq, hx⟩ := hg
    obtain ⟨fp, n, Pd, St, D, st, hm, _, ge, _, hP, hS, hfp⟩ := src_draws I (I.ok.hd hc) hq hp
    have hn := ge hx
    subst hn
    exact wpAny_pyNext_enum_endD D he st fun h1 eb => ⟨rfl, I.turnedL (t' := s.toks) (ch := [e, p]) (fun b o hb y => eb b o (fun q => hb (by simp [q])) y) hf⟩
  self := fun A i s Q E z h => let ⟨⟨_, he⟩, _⟩ := z; wpAny_pyIter_enum he h
/-- iter(x) of a source, as the library begins it -/
def Src.it0 (src : Src) (v : Value) : Obj := match src with
  | .lst a => { cls := .type "list_iterator", data := .fields #[.ref a, .int 0 0] }
  | .tup a => { cls := .type "tuple_iterator", data := .fields #[.ref a, .int 0 0] }
  | .txt x => { cls := .type (strIterType x), data := .fields #[v, .int 0 0] }
theorem src_begins {X : Cx} {pins : List (Addr × Obj)} {σ : L2.St} {H : Hp} {s : Shared} (I : Inv X pins σ H s) {src : Src} {xs : List V} {v : Value} (hs : SrcAt X.K H src xs) (r : RelV src.val v) :
    ∃ Hd : Heap → Prop, Begins v (src.it0 v) Hd ∧ Hd s.heap ∧ ∀ h p, h.get? p = some (src.it0 v) → ItAt h p src 0 := by
  cases src with
  | lst a =>
    obtain rfl : v = .ref a := r
    obtain ⟨its, rv, pl, hz⟩ := I.list hs
    exact ⟨_, begins_list a its.toArray, pl.isList, fun h p e => ⟨_, e, rfl, rfl⟩⟩
  | tup a =>
    obtain rfl : v = .ref a := r
    obtain ⟨its, rv, pl, hz⟩ := I.tuple hs
    exact ⟨_, begins_tuple a its.toArray, pl, fun h p e => ⟨_, e, rfl, rfl⟩⟩
  | txt x =>
    obtain ⟨t, rfl⟩ := r
    exact ⟨_, begins_text x t, trivial, fun h p e => ⟨t, _, e, rfl, rfl⟩⟩
set_option maxHeartbeats 1000000 in
theorem enum_new1 {v : Value} {o : Obj} {H : Heap → Prop} (B : Begins v o H) :
    Meets (Builtin.«enumerate.__new__» ⟨[.type "enumerate", v], []⟩) (fun _ R s => H s.heap ∧
      R (.ok (.ret (.ref (s.heap.push o).objs.size))) { s with heap := (s.heap.push o).push { cls := .type "enumerate", data := .fields #[.none, .bool false, .ref s.heap.objs.size, rawInt 0, .none, .none] } }) :=
  .of_wp fun prog w A R s hr => by
    obtain ⟨hp, g, d, tk, os⟩ := s
    obtain ⟨h1, hr⟩ := hr
    have hsub := sub_enumerate
    have q1 : ∀ {A2 : Around} {E2 : Value → Shared → Prop} {Q2 : Value → Shared → Prop}, Q2 (.ref hp.objs.size) ⟨hp.push o, g, d, tk, os⟩ → wpAny (model prog w) A2 (pyIter v) Q2 E2 ⟨hp, g, d, tk, os⟩ :=
      fun q => B.iter prog w _ _ ⟨hp, g, d, tk, os⟩ _ h1 q
    wp_walk
    refine wpAny_stack_any fun st => wpAny_pure ?_
    split
    · rename_i c _ _ _ _ _
      cases (c == Value.type "enumerate")
      · wp_walk using q1
        exact ⟨_, rfl, hr⟩
      · wp_walk using q1
        exact ⟨_, rfl, hr⟩
    · wp_walk using q1
      exact ⟨_, rfl, hr⟩
theorem call_enum1 {prog : Program} {w : World} {A : Around} {E : Value → Shared → Prop} {s : Shared} {v : Value} {o : Obj} {H : Heap → Prop} {Q : Value → Shared → Prop} (B : Begins v o H) (h1 : H s.heap)
    (hq : ∀ h', IsEnum h' (s.heap.objs.size + 1) s.heap.objs.size 0 .none → h'.get? s.heap.objs.size = some o → (∀ b o, s.heap.get? b = some o → h'.get? b = some o) → Q (.ref (s.heap.objs.size + 1)) { s with heap := h' }) :
    wpAny (model prog w) A (call (.type "enumerate") [v]) Q E s := by
  refine callType_new F.called_enumerate (by decide) (F.typeCall_enumerate_1 _) (F.newCall_enumerate_1 _) (fun obj => F.args_object_init_2 obj _) F.entry_enumerate_new (enum_new1 B) ⟨h1, ?_⟩
  have hz : (s.heap.push o).objs.size = s.heap.objs.size + 1 := Heap.size_push ..
  show _ ∧ _
  rw [hz]
  have he : IsEnum ((s.heap.push o).push { cls := .type "enumerate", data := .fields #[.none, .bool false, .ref s.heap.objs.size, rawInt 0, .none, .none] }) (s.heap.objs.size + 1) s.heap.objs.size 0 .none := by
    have q := Heap.get?_push_size (s.heap.push o) (o := { cls := .type "enumerate", data := .fields #[.none, .bool false, .ref s.heap.objs.size, rawInt 0, .none, .none] }) rfl
    rw [hz] at q
    exact q
  exact ⟨⟨_, he, rfl⟩, hq _ he (Heap.get?_push_of_some _ (Heap.get?_push_size _ B.free)) fun b o y => Heap.get?_push_of_some _ (Heap.get?_push_of_some _ y)⟩
def iEnumS (K : PySem.W.Frag) (ta : TA) : TI := fun σ H R => ta σ H fun vs H1 => ∃ src xs, vs = [src.val] ∧ SrcAt K H1 src xs ∧ R (ItE K src) H1
theorem pi_enumS {X : Cx} {e : Expr} {ta : TA} {p pos tpos : Pos} {elts : List Expr} {kk : Nat} (hg : Gl X "enumerate") (hm : X.mg "enumerate" = none) (ha : PA X [e] ta) (hs : starEach [e] X.env = [(false, eval e X.env)]) :
    PI X (.Tuple elts kk tpos) (.Call (.Name "enumerate" p) [e] [] pos) (iEnumS X.K ta) := by
  refine ⟨fun pins s σ H R I h => ?_⟩
  refine Call_ (ld_blt I hg hm boot_enumerate (PyProof.Rows.callWith_type1 (thn (ha.run pos pins s σ H _ I h) fun us s1 ⟨vs, H1, I1, r1, q1⟩ => ?_) hs rfl))
  obtain ⟨src, xs, ex, hq, q⟩ := q1
  subst ex
  obtain ⟨u, rfl, ru⟩ := vals1 r1
  obtain ⟨Hd, B, hB, hit⟩ := src_begins I1 hq ru
  refine call_enum1 B hB fun h1 he ho hk => wpAny_pyIter_enum he ?_
  have I2 : Inv X pins σ H1 { s1 with heap := h1 } := I1.kept (t' := s1.toks) hk
  refine ⟨s1.heap.objs.size + 1, [s1.heap.objs.size + 1, s1.heap.objs.size], _, _, H1, rfl, I2, turn_enumS src (s1.heap.objs.size + 1) s1.heap.objs.size, ⟨⟨.none, he⟩, hit _ _ ho, Nat.succ_ne_self _⟩, fun b hb => ?_, q⟩
  have hle : s1.heap.objs.size ≤ b := by
    rcases List.mem_cons.mp hb with z | z
    · rw [z]; exact Nat.le_succ _
    · rw [List.mem_singleton.mp z]; exact Nat.le_refl _
  exact I1.fpOk hle (I1.hok.fresh hle)
/-! ### enumerate in the layer -/
def enumL (ws : List W) : List W := ws.zipIdx.map fun p => W.tup [.int (p.2 : Nat), p.1]
theorem enumL_get (ws : List W) (n : Nat) : (enumL ws)[n]? = (ws[n]?).map fun w => W.tup [.int (n : Nat), w] := by
  unfold enumL
  rw [List.getElem?_map, List.getElem?_zipIdx]
  cases ws[n]? <;> simp
theorem enumL_len (ws : List W) : (enumL ws).length = ws.length := by simp [enumL]
def enumV (ws : List W) : M View := fun S => match ws with
  | [w] => match seqV w S with
    | .ok v S' => .ok (fun S => (v S).map enumL) S'
    | .ex x S' => .ex x S'
    | .bad => .bad
  | _ => .bad
/-- a value that is walked: the source behind it -/
def RelSrc (T : Tab) (K : PySem.W.Frag) (ad : List Addr) (H : Hp) (v : View) (src : Src) : Prop := ∀ ad' H' S', Up K ad H ad' H' → Rel T K ad' H' S' → ∀ ws, v S' = some ws → ∃ vs, SrcAt K H' src vs ∧ RelWs K ad' H' ws vs
theorem src_of {T : Tab} {K : PySem.W.Frag} {ad : List Addr} {H : Hp} {S S2 : Sto} {w : W} {x : V} {v : View} (R : Rel T K ad H S) (r : RelW K ad H w x) (h : seqV w S = .ok v S2) :
    S2 = S ∧ ∃ src, x = src.val ∧ RelSrc T K ad H v src ∧ ∃ ws, v S = some ws := by
  unfold seqV at h
  split at h
  · cases h
    cases r with
    | tup s1 r1 => exact ⟨rfl, .tup _, rfl, fun ad' H' S' l R' ws hw => by cases hw; exact ⟨_, l.fwd _ _ s1, r1.up l⟩, _, rfl⟩
  · split at h
    · rename_i ws hs
      cases h
      cases r with
      | ref e => exact ⟨rfl, .lst _, rfl, fun ad' H' S' l R' ws hw => let ⟨vs, q, rr⟩ := R'.seq (pre_get l.pre e) hw; ⟨vs, q, rr⟩, _, hs⟩
    · cases h
  · cases h
    cases r
    exact ⟨rfl, .txt _, rfl, fun ad' H' S' l R' ws hw => by cases hw; exact ⟨_, rfl, rel_signs _⟩, _, rfl⟩
  · cases h
theorem it_enumR {T : Tab} {K : PySem.W.Frag} {ad : List Addr} {H : Hp} {v : View} {src : Src} (r : RelSrc T K ad H v src) : RelIt T K ad H (fun S => (v S).map enumL) (ItE K src) := fun ad' H' S' l R ws hw n => by
  have hw : Option.map enumL (v S') = some ws := hw
  cases q : v S' with
  | none => rw [q] at hw; cases hw
  | some us =>
    rw [q] at hw
    cases hw
    obtain ⟨vs, hs, rr⟩ := r ad' H' S' l R us q
    refine ⟨fun hn => ?_, fun hn => ⟨vs, hs, by rw [← rr.length, ← enumL_len]; exact hn⟩, fun x H2 y w hw2 => ?_⟩
    · rw [enumL_len] at hn
      obtain ⟨z, hz, _⟩ := rr.get (List.getElem?_eq_getElem hn)
      exact ⟨vs, z, hs, hz⟩
    · obtain ⟨a, z, rfl, ha, rfl, hz⟩ := y
      rw [enumL_get] at hw2
      cases q2 : us[n]? with
      | none => rw [q2] at hw2; cases hw2
      | some u =>
        rw [q2] at hw2
        cases hw2
        obtain ⟨z2, hz2, rz⟩ := rr.get q2
        have := hz vs hs
        rw [hz2] at this
        cases this
        exact ⟨same_new ha, .tup (.inl (.inl upd_same)) (.cons (.int _) (.cons (rz.mono (Le.same0 (same_new ha))) .nil))⟩
section
variable {m : Mo} {T : Tab} {k : Nat} {c t : Bool} {sc : Scope} {N : List Str} {ow : Ow} {a b : Expr} {fs : Slots → M (List W)}
theorem it_enumerate {elts : List Expr} {kk : Nat} {tpos p p2 : Pos} (hm : m.mg "enumerate" = none) (ha : SA m T k c t sc N ow [a] fs) (hg : sc.names.lookup ("enumerate" : Str) = some .globalImplicit := by rfl) (hs : ∀ env, starEach [a] env = [(false, eval a env)] := by intro _; rfl) :
    SIt m T k c t sc N ow (.Tuple elts kk tpos) (.Call (.Name "enumerate" p) [a] [] p2) (fun sl => bd (fs sl) enumV) := fun X g Wx tk => by
  have em : X.mg = m.mg := by rw [← g.mo]; rfl
  have ek : X.K = m.K := by rw [← g.mo]; rfl
  have h1 := pi_enumS (elts := elts) (kk := kk) (tpos := tpos) (p := p) (pos := p2) (gl_of g hg) (by rw [em]; exact hm) (ha X g Wx tk) (hs _)
  refine ⟨fun pins s σ H R I h => h1.run pins s σ H R I ?_⟩
  obtain ⟨ad, S, sl, Re, L, h⟩ := h
  refine ⟨ad, S, sl, Re, L, runA_imp (bdA_runI h) ?_⟩
  rintro vs H1 ⟨ad1, S1, ws, l1, R1, r1, h1⟩
  unfold enumV at h1
  split at h1
  · rename_i w
    match vs, r1 with
    | [x], .cons rx .nil =>
      cases q : seqV w S1 with
      | ok v S2 =>
        obtain ⟨rfl, src, rfl, rs, ws2, hw2⟩ := src_of R1 rx q
        simp only [q] at h1
        obtain ⟨us, hus, _⟩ := rs ad1 H1 _ Le.refl.up R1 ws2 hw2
        rw [ek]
        exact ⟨src, us, rfl, hus, h1 _ _ _ Le.refl R1 (it_enumR rs)⟩
      | ex y S2 =>
        exfalso
        unfold seqV at q
        split at q
        · cases q
        · split at q <;> cases q
        · cases q
        · cases q
      | bad => simp only [q] at h1; exact h1.elim
  · exact h1.elim
end
end RP

/-! RpV: zip(x, y) over lists, tuples, texts. -/
namespace RP
open PySem L2 PySem.Spec PyProof.Rows
def ItZ (K : PySem.W.Frag) (s1 s2 : Src) : It :=
  ⟨fun i H => ∃ (xs ys : List V) (x y : V), SrcAt K H s1 xs ∧ SrcAt K H s2 ys ∧ xs[i]? = some x ∧ ys[i]? = some y,
    fun i H v H' => ∃ q x y, v = .ref q ∧ H q = none ∧ H' = upd H q (.tup [x, y]) ∧ (∀ xs, SrcAt K H s1 xs → xs[i]? = some x) ∧ ∀ ys, SrcAt K H s2 ys → ys[i]? = some y,
    fun i H => ∃ xs ys : List V, SrcAt K H s1 xs ∧ SrcAt K H s2 ys ∧ (xs.length ≤ i ∨ ys.length ≤ i)⟩
/-- the five cells of a zip lie apart, and apart from what is walked -/
structure Far (z ti tu p1 p2 : Addr) (s1 s2 : Src) : Prop where
  a1 : ti ≠ z
  a2 : tu ≠ z
  a3 : ti ≠ tu
  a4 : ti ≠ p1
  a5 : ti ≠ p2
  a6 : z ≠ p1
  a7 : z ≠ p2
  a8 : tu ≠ p1
  a9 : tu ≠ p2
  b1 : p1 ≠ p2
  w1 : ∀ a, s1.adr = some a → a ≠ z ∧ a ≠ tu ∧ a ≠ p2
  w2 : ∀ a, s2.adr = some a → a ≠ z ∧ a ≠ tu ∧ a ≠ p1
theorem Far.sep {z ti tu p1 p2 : Addr} {s1 s2 : Src} {fp1 fp2 : List Addr} (D : Far z ti tu p1 p2 s1 s2) (m1 : p1 ∈ fp1) (m2 : p2 ∈ fp2) (f1 : ∀ b ∈ fp1, b = p1 ∨ s1.adr = some b) (f2 : ∀ b ∈ fp2, b = p2 ∨ s2.adr = some b) : ZipSep2 z ti tu p1 p2 fp1 fp2 where
  TIz := D.a1
  TOz := D.a2
  TITO := D.a3
  TIi1 := D.a4
  mem1 := m1
  zf1 := fun h => (f1 z h).elim D.a6 fun q => (D.w1 z q).1 rfl
  Tf1 := fun h => (f1 tu h).elim D.a8 fun q => (D.w1 tu q).2.1 rfl
  TIi2 := D.a5
  mem2 := m2
  zf2 := fun h => (f2 z h).elim D.a7 fun q => (D.w2 z q).1 rfl
  Tf2 := fun h => (f2 tu h).elim D.a9 fun q => (D.w2 tu q).2.1 rfl
  sep1_2 := fun h => (f2 p1 h).elim D.b1 fun q => (D.w2 p1 q).2.2 rfl
  sep2_1 := fun h => (f1 p2 h).elim (fun q => D.b1 q.symm) fun q => (D.w1 p2 q).2.2 rfl
theorem turn_zipS {P : Program} {w : World} {K : PySem.W.Frag} {elts : List Expr} {kk : Nat} {tpos : Pos} {z ti tu p1 p2 : Addr} {s1 s2 : Src} (D : Far z ti tu p1 p2 s1 s2) :
    Turn P w K (.Tuple elts kk tpos) (ItZ K s1 s2) [z, ti, tu, p1, p2] z (fun i h => IsZip h z ti tu .none ∧ IsTupOf2 h ti (.ref p1) (.ref p2) ∧ (∃ x y, IsTupOf2 h tu x y) ∧ ItAt h p1 s1 i ∧ ItAt h p2 s2 i) where
  mem := by simp
  obj := fun i h st b hb => by
    obtain ⟨hz, ht, ⟨x, y, hu⟩, h1, h2⟩ := st
    obtain ⟨o1, _, _, g1, _, _, _, _, _, d1⟩ := h1.obj
    obtain ⟨o2, _, _, g2, _, _, _, _, _, d2⟩ := h2.obj
    have e : b = z ∨ b = ti ∨ b = tu ∨ b = p1 ∨ b = p2 := by simpa using hb
    rcases e with q | q | q | q | q <;> rw [q]
    · exact ⟨_, hz, fun v r => nomatch r⟩
    · exact ⟨_, ht, fun v r => nomatch r⟩
    · exact ⟨_, hu, fun v r => nomatch r⟩
    · exact ⟨o1, g1, fun v r => by rw [d1] at r; cases r⟩
    · exact ⟨o2, g2, fun v r => by rw [d2] at r; cases r⟩
  keep := fun i h h' st k => by
    obtain ⟨hz, ht, ⟨x, y, hu⟩, h1, h2⟩ := st
    exact ⟨k z (by simp) _ hz, k ti (by simp) _ ht, ⟨x, y, k tu (by simp) _ hu⟩, h1.at_ fun o q => k p1 (by simp) o q, h2.at_ fun o q => k p2 (by simp) o q⟩
  item := by
    intro X hP hw hK hc i pins s σ H E I hf st hg
    subst hP hw hK
    obtain ⟨hz, ht, ⟨x0, y0, hu⟩, h1, h2⟩ := st
    obtain ⟨xs, ys, x, y, hqx, hqy, hx, hy⟩ := hg
    obtain ⟨fp1, n1, P1, S1, D1, t1, m1, lt1, _, _, r1, k1, f1⟩ := src_draws I (I.ok.hd hc) hqx h1
    obtain ⟨fp2, n2, P2, S2, D2, t2, m2, lt2, _, _, r2, k2, f2⟩ := src_draws I (I.ok.hd hc) hqy h2
    have sep := D.sep m1 m2 (fun b hb => (f1 b hb).imp id And.left) (fun b hb => (f2 b hb).imp id And.left)
    have hzl : z < s.heap.objs.size := Heap.lt_size hz
    refine wpAny_pyNext_zipD2_item sep D1 D2 hz ht hu t1 t2 (lt1 (List.getElem?_eq_some_iff.mp hx).1) (lt2 (List.getElem?_eq_some_iff.mp hy).1) fun u1 u2 h' tk q1 q2 z' u' s1' s2' hT hsz hk => ?_
    obtain ⟨x', e1, ru⟩ := r1 u1 q1
    rw [hx] at e1
    cases e1
    obtain ⟨y', e2, ru2⟩ := r2 u2 q2
    rw [hy] at e2
    cases e2
    refine ⟨_, rfl, wpAny_letOwnedTupleGo_zip (s := { s with heap := h', toks := tk }) z' fun h2' z'' sb => ?_⟩
    have hT2 : h2'.get? s.heap.objs.size = some { cls := .type "tuple", data := .seq #[u1, u2] } := (sb.2 _ (Nat.ne_of_gt hzl)).trans hT
    have made : ObjOk X.prog X.w (upd H s.heap.objs.size (.tup [x, y])) h2' s.heap.objs.size (.tup [x, y]) :=
      ⟨by show 2 ≤ sizeLine; decide, [u1, u2], .cons ru (.cons ru2 .nil), ⟨_, hT2, rfl, _, rfl⟩⟩
    have I1 : Inv X pins σ (upd H s.heap.objs.size (.tup [x, y])) { s with heap := h2', toks := tk } :=
      I.turnedNew (t' := tk) (ch := [z, ti, tu, p1, p2]) (fun b o hb q => (sb.2 b (fun r => hb (by simp [r]))).trans (hk b o (fun r => hb (by simp [r])) (fun r => hb (by simp [r])) (fun r => hb (by simp [r])) (fun r => hb (by simp [r])) q)) hf (Nat.le_refl _) made
    refine ⟨.ref s.heap.objs.size, _, I1, rfl, ⟨_, x, y, rfl, I.hok.fresh (Nat.le_refl _), rfl, fun l hl => by rw [src_inj I hl hqx]; exact hx, fun l hl => by rw [src_inj I hl hqy]; exact hy⟩, ⟨z'', ?_, ⟨u1, u2, ?_⟩, ?_, ?_⟩, fun b hb => ?_⟩
    · exact (sb.2 _ D.a1).trans (hk _ _ D.a1 D.a3 D.a4 D.a5 ht)
    · exact (sb.2 _ D.a2).trans u'
    · exact (k1 _ s1').at_ fun o q => (sb.2 _ (Ne.symm D.a6)).trans q
    · exact (k2 _ s2').at_ fun o q => (sb.2 _ (Ne.symm D.a7)).trans q
    · have hlt : b < s.heap.objs.size := by
        have e : b = z ∨ b = ti ∨ b = tu ∨ b = p1 ∨ b = p2 := by simpa using hb
        rcases e with q | q | q | q | q <;> rw [q]
        · exact hzl
        · exact Heap.lt_size ht
        · exact Heap.lt_size hu
        · obtain ⟨_, _, _, g, _⟩ := h1.obj; exact Heap.lt_size g
        · obtain ⟨_, _, _, g, _⟩ := h2.obj; exact Heap.lt_size g
      rw [upd_ne (Nat.ne_of_lt hlt)]
      exact (hf b hb).1
  done := by
    intro X hP hw hK hc i pins s σ H E I hf st hg
    subst hP hw hK
    obtain ⟨hz, ht, ⟨x0, y0, hu⟩, h1, h2⟩ := st
    obtain ⟨xs, ys, hqx, hqy, hend⟩ := hg
    obtain ⟨fp1, n1, P1, S1, D1, t1, m1, _, ge1, le1, _, _, f1⟩ := src_draws I (I.ok.hd hc) hqx h1
    obtain ⟨fp2, n2, P2, S2, D2, t2, m2, _, ge2, le2, _, _, f2⟩ := src_draws I (I.ok.hd hc) hqy h2
    have sep := D.sep m1 m2 (fun b hb => (f1 b hb).imp id And.left) (fun b hb => (f2 b hb).imp id And.left)
    exact wpAny_pyNext_zipD2_end sep D1 D2 hz ht hu t1 t2 le1 le2 (hend.imp ge1 ge2) fun h' tk hk => ⟨rfl, I.turnedL (t' := tk) (ch := [z, ti, tu, p1, p2]) (fun b o hb q =>
      hk b o (fun r => hb (by simp [r])) (fun r => hb (by simp [r])) (fun r => hb (by simp [r])) (fun r => hb (by simp [r])) q) hf⟩
  self := fun A i s Q E st h => wpAny_pyIter_zip st.1 h
theorem src_lt {X : Cx} {pins : List (Addr × Obj)} {σ : L2.St} {H : Hp} {s : Shared} (I : Inv X pins σ H s) {src : Src} {xs : List V} (hs : SrcAt X.K H src xs) : ∀ a, src.adr = some a → a < s.heap.objs.size := fun a e => by
  cases src with
  | lst b =>
    cases e
    obtain ⟨its, rv, pl, hz⟩ := I.list hs
    exact pl.lt
  | tup b =>
    cases e
    obtain ⟨its, rv, pl, hz⟩ := I.tuple hs
    obtain ⟨o, ho, _⟩ := pl
    exact Heap.lt_size ho
  | txt x => cases e
theorem far_of {s1 s2 : Src} (n : Nat) (l1 : ∀ a, s1.adr = some a → a < n) (l2 : ∀ a, s2.adr = some a → a < n) : Far (n + 4) (n + 2) (n + 3) n (n + 1) s1 s2 := by
  have ne : ∀ {a b : Nat}, (a < b ∨ b < a) → a ≠ b := fun h => by omega
  refine ⟨ne (by omega), ne (by omega), ne (by omega), ne (by omega), ne (by omega), ne (by omega), ne (by omega), ne (by omega), ne (by omega), ne (by omega), fun a e => ?_, fun a e => ?_⟩
  · have := l1 a e
    exact ⟨ne (Or.inl (Nat.lt_of_lt_of_le this (Nat.le_add_right _ _))), ne (Or.inl (Nat.lt_of_lt_of_le this (Nat.le_add_right _ _))), ne (Or.inl (Nat.lt_of_lt_of_le this (Nat.le_add_right _ _)))⟩
  · have := l2 a e
    exact ⟨ne (Or.inl (Nat.lt_of_lt_of_le this (Nat.le_add_right _ _))), ne (Or.inl (Nat.lt_of_lt_of_le this (Nat.le_add_right _ _))), ne (Or.inl this)⟩
def iZipS (K : PySem.W.Frag) (ta : TA) : TI := fun σ H R => ta σ H fun vs H1 => ∃ s1 s2 xs ys, vs = [s1.val, s2.val] ∧ SrcAt K H1 s1 xs ∧ SrcAt K H1 s2 ys ∧ R (ItZ K s1 s2) H1
theorem vals_two {x y : V} {us : List Value} (r : Vals [x, y] us) : ∃ u v, us = [u, v] ∧ RelV x u ∧ RelV y v := by
  cases r with
  | cons r1 r2 =>
    cases r2 with
    | cons r2 r3 =>
      cases r3
      exact ⟨_, _, rfl, r1, r2⟩
theorem pi_zipS {X : Cx} {e e2 : Expr} {ta : TA} {p pos tpos : Pos} {elts : List Expr} {kk : Nat} (hg : Gl X "zip") (hm : X.mg "zip" = none) (ha : PA X [e, e2] ta)
    (hs : starEach [e, e2] X.env = (false, eval e X.env) :: starEach [e2] X.env) (hpl : (backTo pos (starEach [e2] X.env)).any (·.1) = false) : PI X (.Tuple elts kk tpos) (.Call (.Name "zip" p) [e, e2] [] pos) (iZipS X.K ta) := by
  refine ⟨fun pins s σ H R I h => ?_⟩
  refine Call_ (ld_blt I hg hm PyProof.Rows.boot_zip (PyProof.Rows.callWith_type1 (thn (ha.run pos pins s σ H _ I h) fun us st ⟨vs, H1, I1, r1, q1⟩ => ?_) hs hpl))
  obtain ⟨s1, s2, xs, ys, ex, hqx, hqy, q⟩ := q1
  subst ex
  obtain ⟨u1, u2, rfl, ru1, ru2⟩ := vals_two r1
  · obtain ⟨Hd1, B1, hB1, hit1⟩ := src_begins I1 hqx ru1
    obtain ⟨Hd2, B2, hB2, hit2⟩ := src_begins I1 hqy ru2
    refine zip_begins2 B1 B2 hB1 hB2 fun h' hz ht hu g1 g2 hsz hk => wpAny_pyIter_zip hz ?_
    have I2 : Inv X pins σ H1 { st with heap := h' } := I1.kept (t' := st.toks) hk
    have l1 := src_lt I1 hqx
    have l2 := src_lt I1 hqy
    have far := far_of (s1 := s1) (s2 := s2) st.heap.objs.size l1 l2
    refine ⟨st.heap.objs.size + 4, [st.heap.objs.size + 4, st.heap.objs.size + 2, st.heap.objs.size + 3, st.heap.objs.size, st.heap.objs.size + 1], _, _, H1, rfl, I2, turn_zipS far, ⟨hz, ht, ⟨_, _, hu⟩, hit1 _ _ g1, hit2 _ _ g2⟩, fun b hb => ?_, q⟩
    have e : b = st.heap.objs.size + 4 ∨ b = st.heap.objs.size + 2 ∨ b = st.heap.objs.size + 3 ∨ b = st.heap.objs.size ∨ b = st.heap.objs.size + 1 := by simpa using hb
    have hle : st.heap.objs.size ≤ b := by
      rcases e with z | z | z | z | z <;> rw [z]
      · exact Nat.le_add_right _ _
      · exact Nat.le_add_right _ _
      · exact Nat.le_add_right _ _
      · exact Nat.le_refl _
      · exact Nat.le_add_right _ _
    exact I1.fpOk hle (I1.hok.fresh hle)
/-! ### zip in the layer -/
def zipL (xs ys : List W) : List W := (xs.zip ys).map fun p => W.tup [p.1, p.2]
def zip2 (v1 v2 : View) : View := fun S => match v1 S, v2 S with
  | some xs, some ys => some (zipL xs ys)
  | _, _ => none
def zipV (ws : List W) : M View := fun S => match ws with
  | [a, b] => match seqV a S with
    | .ok v1 S1 => match seqV b S1 with
      | .ok v2 S2 => .ok (zip2 v1 v2) S2
      | _ => .bad
    | _ => .bad
  | _ => .bad
theorem zipL_len (xs ys : List W) : (zipL xs ys).length = min xs.length ys.length := by simp [zipL]
theorem zipL_get (xs ys : List W) (n : Nat) {w : W} (h : (zipL xs ys)[n]? = some w) : ∃ a b, xs[n]? = some a ∧ ys[n]? = some b ∧ w = .tup [a, b] := by
  unfold zipL at h
  rw [List.getElem?_map] at h
  cases q : (xs.zip ys)[n]? with
  | none => rw [q] at h; cases h
  | some p =>
    rw [q] at h
    cases h
    have := List.getElem?_zip_eq_some.mp q
    exact ⟨p.1, p.2, this.1, this.2, rfl⟩
theorem it_zipR {T : Tab} {K : PySem.W.Frag} {ad : List Addr} {H : Hp} {v1 v2 : View} {s1 s2 : Src} (r1 : RelSrc T K ad H v1 s1) (r2 : RelSrc T K ad H v2 s2) : RelIt T K ad H (zip2 v1 v2) (ItZ K s1 s2) := fun ad' H' S' l R ws hw n => by
  unfold zip2 at hw
  split at hw
  · rename_i xs ys q1 q2
    cases hw
    obtain ⟨us, hs1, rr1⟩ := r1 ad' H' S' l R xs q1
    obtain ⟨vs, hs2, rr2⟩ := r2 ad' H' S' l R ys q2
    refine ⟨fun hn => ?_, fun hn => ⟨us, vs, hs1, hs2, ?_⟩, fun x H2 y w hw2 => ?_⟩
    · rw [zipL_len] at hn
      obtain ⟨z1, hz1, _⟩ := rr1.get (List.getElem?_eq_getElem (show n < xs.length by omega))
      obtain ⟨z2, hz2, _⟩ := rr2.get (List.getElem?_eq_getElem (show n < ys.length by omega))
      exact ⟨us, vs, z1, z2, hs1, hs2, hz1, hz2⟩
    · rw [zipL_len] at hn
      rw [← rr1.length, ← rr2.length]
      omega
    · obtain ⟨a, z1, z2, rfl, ha, rfl, hz1, hz2⟩ := y
      obtain ⟨a1, a2, e1, e2, rfl⟩ := zipL_get xs ys n hw2
      obtain ⟨y1, hy1, ry1⟩ := rr1.get e1
      obtain ⟨y2, hy2, ry2⟩ := rr2.get e2
      have t1 := hz1 us hs1
      have t2 := hz2 vs hs2
      rw [hy1] at t1
      rw [hy2] at t2
      cases t1
      cases t2
      exact ⟨same_new ha, .tup (.inl (.inl upd_same)) (.cons (ry1.mono (Le.same0 (same_new ha))) (.cons (ry2.mono (Le.same0 (same_new ha))) .nil))⟩
  · cases hw
section
variable {m : Mo} {T : Tab} {k : Nat} {c t : Bool} {sc : Scope} {N : List Str} {ow : Ow} {a b : Expr} {fs : Slots → M (List W)}
theorem it_zip {elts : List Expr} {kk : Nat} {tpos p p2 : Pos} (hm : m.mg "zip" = none) (ha : SA m T k c t sc N ow [a, b] fs) (hg : sc.names.lookup ("zip" : Str) = some .globalImplicit := by rfl) (hs : ∀ env, starEach [a, b] env = (false, eval a env) :: starEach [b] env := by intro _; rfl)
    (hpl : ∀ env, (backTo p2 (starEach [b] env)).any (·.1) = false := by intro _; rfl) : SIt m T k c t sc N ow (.Tuple elts kk tpos) (.Call (.Name "zip" p) [a, b] [] p2) (fun sl => bd (fs sl) zipV) := fun X g Wx tk => by
  have em : X.mg = m.mg := by rw [← g.mo]; rfl
  have ek : X.K = m.K := by rw [← g.mo]; rfl
  have h1 := pi_zipS (elts := elts) (kk := kk) (tpos := tpos) (p := p) (pos := p2) (gl_of g hg) (by rw [em]; exact hm) (ha X g Wx tk) (hs _) (hpl _)
  refine ⟨fun pins s σ H R I h => h1.run pins s σ H R I ?_⟩
  obtain ⟨ad, S, sl, Re, L, h⟩ := h
  refine ⟨ad, S, sl, Re, L, runA_imp (bdA_runI h) ?_⟩
  rintro vs H1 ⟨ad1, S1, ws, l1, R1, r1, h1⟩
  unfold zipV at h1
  split at h1
  · rename_i w1 w2
    match vs, r1 with
    | [x1, x2], .cons rx1 (.cons rx2 .nil) =>
      split at h1
      · rename_i v1 S2 q1
        obtain ⟨rfl, src1, rfl, rs1, ws1, hw1⟩ := src_of R1 rx1 q1
        split at h1
        · rename_i v2 S3 q2
          obtain ⟨rfl, src2, rfl, rs2, ws2, hw2⟩ := src_of R1 rx2 q2
          obtain ⟨us1, hus1, _⟩ := rs1 ad1 H1 _ Le.refl.up R1 ws1 hw1
          obtain ⟨us2, hus2, _⟩ := rs2 ad1 H1 _ Le.refl.up R1 ws2 hw2
          rw [ek]
          exact ⟨src1, src2, us1, us2, rfl, hus1, hus2, h1 _ _ _ Le.refl R1 (it_zipR rs1 rs2)⟩
        · exact h1.elim
      · exact h1.elim
  · exact h1.elim
end
end RP

/-! RpW: name op= value. -/
namespace RP
open PySem L2
section
variable {m : Mo} {T : Tab} {k : Nat} {c t : Bool} {sc : Scope} {N : List Str} {ow : Ow} {e : Expr} {fe : Slots → M W}
theorem s_aug (i : Nat) {x : Str} {op : Operator} {gg : W → W → M W} {p1 pos : Pos} (he : SE m T k c t sc N ow e fe) (ho : SI m T k c t sc N ow op gg) (hi : N[i]? = some x := by rfl) (hx : LocO sc ow x := by first | exact Or.inl rfl | exact Or.inr ⟨rfl, by decide +kernel⟩) :
    SS m T k c t sc N ow (.AugAssign (.Name x p1) op e pos) (fun sl => exS sl (getSl i sl) fun w => exS sl (fe sl) fun y => exS sl (gg w y) fun z => RP.ret (.nx (sl.set i (some z)))) := fun X g Wx tk => by
  refine ⟨fun pins s σ H D I h => (ps_aug (i := i) (ti := r2 T m.K gg fun c d H' => Wx c d σ H') (by rw [g.hN]; exact g.nd) (by rw [g.hN]; exact hi) (loc_of g hx) (he X g Wx tk) (ho X g _) (hf_of g hx)).run pins s σ H D I ?_⟩
  obtain ⟨ad, S, sl, R, L, h⟩ := h
  cases q : sl[i]? with
  | none => simp only [exS, getSl, q] at h; exact h.elim
  | some o =>
    cases o with
    | none => simp only [exS, getSl, q] at h; exact h.elim
    | some w =>
      obtain ⟨v, hv, rv⟩ := L.get i w q
      have h : runS T m.K ad H (exS sl (fe sl) (fun y => exS sl (gg w y) fun z => RP.ret (.nx (sl.set i (some z)))) S) D Wx := by
        simp only [exS, getSl, q] at h ⊢
        exact h
      refine ⟨v, hv, ad, S, sl, R, L, run_imp (run_exS L h) ?_⟩
      rintro y H1 ⟨ad1, S1, w1, l1, R1, r1, h1⟩
      refine ⟨ad1, S1, w, w1, R1, rv.mono l1, r1, run_imp (run_exS (L.mono l1) h1) ?_⟩
      rintro z H2 ⟨ad2, S2, w2, l2, R2, r2, h2⟩
      exact runS_nx R2 (((L.mono l1).mono l2).set r2 i) h2
/-- list(range(n)) -/
def lrM (w : W) : M W := fun S => match w with
  | .int n => if 0 ≤ n ∧ n ≤ 16777216 then .ok (.ref S.length) (S ++ [.lst ((List.range n.toNat).map fun (i : Nat) => W.int i)]) else .bad
  | _ => .bad
theorem rel_range {K : PySem.W.Frag} {ad : List Addr} {H : Hp} : ∀ l : List Nat, RelWs K ad H (l.map fun (i : Nat) => W.int i) (l.map fun (i : Nat) => V.int (0 + (i : Nat)))
  | [] => .nil
  | n :: l => .cons (by show RelW K ad H (.int n) (.int (0 + (n : Int))); rw [Int.zero_add]; exact .int _) (rel_range l)
theorem e_lrng {a : Expr} {fa : Slots → M W} {p p2 pos pos2 : Pos} (hc : c = true) (hl : m.mg "list" = none) (hr : m.mg "range" = none) (ha : SE m T k c t sc N ow a fa) (gl : sc.names.lookup ("list" : Str) = some .globalImplicit := by rfl) (gr : sc.names.lookup ("range" : Str) = some .globalImplicit := by rfl)
    (na : ∀ env, starEach [a] env = (false, eval a env) :: starEach [] env := by intro _; rfl) (nb : ∀ env, starEach [(.Call (.Name "range" p2) [a] [] pos2 : Expr)] env = (false, eval (.Call (.Name "range" p2) [a] [] pos2) env) :: starEach [] env := by intro _; rfl) :
    SE m T k c t sc N ow (.Call (.Name "list" p) [.Call (.Name "range" p2) [a] [] pos2] [] pos) (fun sl => bd (fa sl) lrM) := fun X g Wx tk => by
  have em : X.mg = m.mg := by rw [← g.mo]; rfl
  refine (pe_listRg (p := p) (pos := pos) (g.calm hc) (gl_of g gl) (by rw [em]; exact hl) (prg_1 (p := p2) (pos := pos2) (gl_of g gr) (by rw [em]; exact hr) (ha X g Wx tk) (na _)) (nb _)).imp fun σ H Q h => ?_
  obtain ⟨ad, S, sl, R, L, h⟩ := h
  refine ⟨ad, S, sl, R, L, run_imp (run_bd h) ?_⟩
  rintro v H1 ⟨ad1, S1, w1, l1, R1, r1, h1⟩
  unfold lrM at h1
  split at h1
  · rename_i n
    split at h1
    · rename_i hn
      cases r1
      refine ⟨n, rfl, RgOk.of_le (by omega) hn.2 (by omega) hn.1, fun q hq => ?_⟩
      have e : rgV 0 n = (List.range n.toNat).map fun (i : Nat) => V.int (0 + (i : Nat)) := by unfold rgV; rw [Int.sub_zero]
      rw [e]
      exact run_newlst R1 hq (rel_range _) h1
    · exact h1.elim
  · exact h1.elim
end
end RP

/-! RpX: len(set(xs)) of whole numbers. -/
namespace RP
open PySem L2 PySem.Spec PyProof.Rows
/-- the numbers, each once, as they are met -/
def once (ns : List Int) : List Int := firstMet (fun i => ns.getD i 0) ns.length
section
variable {m : Mo} {T : Tab} {k : Nat} {c t : Bool} {sc : Scope} {N : List Str} {ow : Ow} {a : Expr} {fa : Slots → M W}
def intsOf : List W → Option (List Int)
  | [] => some []
  | .int i :: r => (intsOf r).map (i :: ·)
  | _ => none
theorem intsOf_rel {K : PySem.W.Frag} {ad : List Addr} {H : Hp} : ∀ {ws : List W} {vs : List V} {ns : List Int}, intsOf ws = some ns → RelWs K ad H ws vs → vs = ns.map V.int
  | [], _, _, e, .nil => by cases e; rfl
  | w :: ws, _, ns, e, .cons r rr => by
    cases w <;> simp only [intsOf] at e <;> try cases e
    cases r
    cases q : intsOf ws with
    | none => rw [q] at e; cases e
    | some cs =>
      rw [q] at e
      cases e
      rw [intsOf_rel q rr]
      rfl
end
end RP

/-! RpY: x in xs, by data of any depth. -/
namespace RP
open PySem L2
section
variable {m : Mo} {T : Tab} {k : Nat} {c t : Bool} {sc : Scope} {N : List Str} {ow : Ow}
end
end RP

/-! RpZ: what a value is as data; how data are compared. -/
namespace RP
open PySem L2
theorem dat_more {S : Sto} : ∀ (n : Nat) (w : W) (d : PyData), dat n S w = some d → dat (n + 1) S w = some d := by
  intro n
  have all : ∀ n, (∀ (w : W) (d : PyData), dat n S w = some d → dat (n + 1) S w = some d) → ∀ (ws : List W) (ds : List PyData), ws.mapM (dat n S) = some ds → ws.mapM (dat (n + 1) S) = some ds := by
    intro n ih ws
    induction ws with
    | nil => intro ds h; simpa using h
    | cons w ws iw =>
      intro ds h
      rw [List.mapM_cons] at h ⊢
      cases q : dat n S w with
      | none => rw [q] at h; cases h
      | some d =>
        rw [q] at h
        cases q2 : ws.mapM (dat n S) with
        | none => rw [q2] at h; cases h
        | some es =>
          rw [q2] at h
          rw [ih w d q, iw es q2]
          exact h
  induction n with
  | zero =>
    intro w d h
    cases w <;> first | exact h | (unfold dat at h; cases h)
  | succ n ih =>
    intro w d h
    cases w with
    | tup xs =>
      unfold dat at h ⊢
      cases q : xs.mapM (dat n S) with
      | none => rw [q] at h; cases h
      | some ds => rw [q] at h; rw [all n ih xs ds q]; exact h
    | ref i =>
      unfold dat at h ⊢
      cases e : S[i]? with
      | none => rw [e] at h; cases h
      | some o =>
        rw [e] at h
        cases o with
        | lst xs =>
          simp only at h ⊢
          cases q : xs.mapM (dat n S) with
          | none => rw [q] at h; cases h
          | some ds => rw [q] at h; rw [all n ih xs ds q]; exact h
        | _ => cases h
    | _ => first | exact h | (unfold dat at h; cases h)
/-- the value w is, in the state, the data d of depth n at most -/
structure Dm (n : Nat) (S : Sto) (w : W) (d : PyData) : Prop where
  e : dat n S w = some d
  c : d.canLay0 = true
  p : d.depth ≤ n
section
variable {S : Sto} {n : Nat} {α : Type}
theorem Dm.int (i : Int) : Dm n S (.int i) (.int i) := ⟨by cases n <;> rfl, rfl, Nat.zero_le _⟩
theorem Dm.non : Dm n S .non .none := ⟨by cases n <;> rfl, rfl, Nat.zero_le _⟩
theorem Dm.bl (b : Bool) : Dm n S (.bl b) (.bool b) := ⟨by cases n <;> rfl, rfl, Nat.zero_le _⟩
theorem Dm.str {x : Str} (h : PyData.strOk x = true) : Dm n S (.str x) (.str x) := ⟨by cases n <;> rfl, h, Nat.zero_le _⟩
theorem lay_map {g : α → PyData} : ∀ {l : List α}, (∀ a ∈ l, (g a).canLay0 = true) → PyData.canLayAll0 (l.map g) = true
  | [], _ => rfl
  | a :: l, h => by
    rw [List.map_cons, PyData.canLayAll0, h a (by simp), lay_map fun b hb => h b (by simp [hb])]
    rfl
theorem deep_map {g : α → PyData} : ∀ {l : List α}, (∀ a ∈ l, (g a).depth ≤ n) → PyData.depthAll (l.map g) ≤ n
  | [], _ => Nat.zero_le _
  | a :: l, h => by
    have h1 := h a (by simp)
    have h2 := deep_map (g := g) (l := l) fun b hb => h b (by simp [hb])
    rw [List.map_cons, PyData.depthAll]
    omega
theorem dat_map {f : α → W} {g : α → PyData} : ∀ {l : List α}, (∀ a ∈ l, dat n S (f a) = some (g a)) → (l.map f).mapM (dat n S) = some (l.map g)
  | [], _ => by simp
  | a :: l, h => by
    rw [List.map_cons, List.mapM_cons, h a (by simp), dat_map (l := l) fun b hb => h b (by simp [hb])]
    rfl
theorem Dm.tup {f : α → W} {g : α → PyData} {l : List α} (h : ∀ a ∈ l, Dm n S (f a) (g a)) : Dm (n + 1) S (.tup (l.map f)) (.tuple (l.map g)) := by
  refine ⟨?_, lay_map fun a ha => (h a ha).c, ?_⟩
  · unfold dat
    rw [dat_map fun a ha => (h a ha).e]
    rfl
  · rw [PyData.depth]
    have := deep_map (n := n) fun a ha => (h a ha).p
    omega
theorem Dm.lst {f : α → W} {g : α → PyData} {l : List α} {i : Nat} (hi : S[i]? = some (.lst (l.map f))) (h : ∀ a ∈ l, Dm n S (f a) (g a)) : Dm (n + 1) S (.ref i) (.list (l.map g)) := by
  refine ⟨?_, lay_map fun a ha => (h a ha).c, ?_⟩
  · unfold dat
    rw [hi]
    simp only
    rw [dat_map fun a ha => (h a ha).e]
    rfl
  · rw [PyData.depth]
    have := deep_map (n := n) fun a ha => (h a ha).p
    omega
theorem Dm.nil {i : Nat} (hi : S[i]? = some (.lst [])) : Dm (n + 1) S (.ref i) (.list []) := Dm.lst (α := Unit) (f := fun _ => .non) (g := fun _ => .none) (l := []) hi (fun a h => nomatch h)
theorem Dm.more {w : W} {d : PyData} (h : Dm n S w d) : Dm (n + 1) S w d := ⟨dat_more n w d h.e, h.c, by have := h.p; omega⟩
theorem Dm.to {w : W} {d : PyData} (h : Dm n S w d) : ∀ k, Dm (n + k) S w d
  | 0 => h
  | k + 1 => (h.to k).more
theorem Dm.at9 {w : W} {d : PyData} (h : Dm n S w d) (hn : n ≤ 9) : Dm 9 S w d := by
  have := h.to (9 - n)
  rwa [show n + (9 - n) = 9 by omega] at this
theorem Dm.sh {w : W} {d : PyData} (h : Dm 9 S w d) : SeqAt.shaped d = true := by
  have := h.p
  exact Bool.and_eq_true_iff.mpr ⟨h.c, decide_eq_true (by omega)⟩
theorem Dm.eqw {x y : W} {d d' : PyData} (h : Dm 9 S x d) (h' : Dm 9 S y d') : eqW S x y = some (PyData.eqv d d') := by
  have main : (match dat 9 S x, dat 9 S y with
    | some d, some e => if SeqAt.shaped d && SeqAt.shaped e then some (PyData.eqv d e) else none
    | _, _ => none) = some (PyData.eqv d d') := by simp only [h.e, h'.e, h.sh, h'.sh, Bool.and_self, if_true]
  have e1 := h.e
  have e2 := h'.e
  unfold eqW
  split <;> first
    | exact main
    | (unfold dat at e1 e2; cases e1; cases e2; simp [PyData.eqv, Bool.beq_eq_decide_eq]; try rfl)
theorem Dm.eq {x y : W} {d d' : PyData} {b : Bool} (h : Dm 9 S x d) (h' : Dm 9 S y d') (e : PyData.eqv d d' = b) : pyEq x y S = .ok (.bl b) S := by simp only [pyEq, h.eqw h', e]
theorem Dm.ne {x y : W} {d d' : PyData} {b : Bool} (h : Dm 9 S x d) (h' : Dm 9 S y d') (e : PyData.eqv d d' = b) : pyNe x y S = .ok (.bl (!b)) S := by simp only [pyNe, h.eqw h', e]
theorem Dm.same {x y : W} {d : PyData} (h : Dm 9 S x d) (h' : Dm 9 S y d) : pyEq x y S = .ok (.bl true) S := h.eq h' (SeqAt.eqv_refl d h.c)
theorem Dm.sameN {x y : W} {d : PyData} (h : Dm 9 S x d) (h' : Dm 9 S y d) : pyNe x y S = .ok (.bl false) S := h.ne h' (SeqAt.eqv_refl d h.c)
end
end RP

namespace RP
open PySem PyProof.Rows
/-! ### all tuples of strides -/
def ev (w : Nat) (p : Nat → Nat → Bool) : Nat → List (List Nat)
  | 0 => [[]]
  | n + 1 => (ev w p n).flatMap fun o => ((List.range w).filter (p n)).map fun s => o ++ [s]
section
variable {w : Nat} {p : Nat → Nat → Bool}
end
end RP

/-! RpAA: list.index of flat things; tuple * int; while by a bound. -/
namespace RP
open PySem L2 PySem.Spec PyProof.Rows
section
variable {m : Mo} {T : Tab} {k : Nat} {c t : Bool} {sc : Scope} {N : List Str} {ow : Ow}
def lindexM (w : W) (ws : List W) : M W := fun S => match w, ws with
  | .ref i, [y] => match S[i]? with
    | some (.lst xs) => if flatW y && xs.all flatW then (match xs.findIdx? (fun z => eqF z y) with
      | some j => .ok (.int j) S
      | none => .bad) else .bad
    | _ => .bad
  | _, _ => .bad
theorem m_lindex : SM m T k c t sc N ow "list.index" lindexM := fun X g E pins s σ H x xs v us Q I rx rs ⟨ad, S, w, ws, R, rw', rws, h⟩ => by
  obtain ⟨rfl, _⟩ := g
  unfold lindexM at h
  split at h
  · cases rw' with
    | ref e1 =>
    match xs, rws with
    | [_], .cons ry .nil =>
      split at h
      · rename_i ys hs
        split at h
        · rename_i hz
          split at h
          · rename_i j hj
            simp only [Bool.and_eq_true] at hz
            obtain ⟨vs, q, r2⟩ := R.lst e1 hs
            obtain ⟨hl, h1, h2⟩ := List.findIdx?_eq_some_iff_getElem.mp hj
            obtain ⟨z, hz1, rz⟩ := r2.get (List.getElem?_eq_getElem hl)
            refine mt_index pins s σ H _ _ v us Q I rx rs ⟨_, vs, _, j, z, rfl, rfl, SqL.of q, by rw [flat_of ry]; exact hz.1, by rw [flats_of r2]; exact hz.2, hz1, by rw [eqF_of rz ry]; exact h1, fun n z' hn hz' => ?_, run_ok R (.int _) h⟩
            obtain ⟨w', hw', rw''⟩ := r2.getV hz'
            rw [eqF_of rw'' ry]
            have := h2 n hn
            rw [List.getElem?_eq_getElem (by omega)] at hw'
            rw [← Option.some.inj hw']
            simpa using this
          · exact h.elim
        · exact h.elim
      · exact h.elim
  · exact h.elim
theorem tupTimes1 (p : Addr) (its : Array Value) (nn : Nat) (dct : Option Addr) (slts : Array (Option Value)) (tk1 : Tok) :
    Meets (Builtin.«tuple.__mul__» ⟨[.ref p, .int 1 tk1], []⟩) (fun _ R s => s.heap.get? p = some { cls := .type "tuple", dict := dct, data := .seq its nn, slots := slts } ∧ R (.ok (.ret (Value.ref p))) s) :=
  .of_wp fun pr wo Ar R s h => by
    obtain ⟨hp, gg, dd, tk, os⟩ := s
    obtain ⟨hp1, h⟩ := h
    have f1 := AutoSeq1.idx_int
    have k1 : (its.isEmpty || (1 : Int) == 1) = true := by simp
    wp_walk using wpAny_loadPart' hp1
    repeat (first
      | (refine wpAny_ite_true (decide_eq_true k1) ?_; wp_walk using wpAny_loadPart' hp1)
      | (refine wpAny_ite_false (by decide) ?_; wp_walk using wpAny_loadPart' hp1)
      | (refine wpAny_ite_true (by decide) ?_; wp_walk using wpAny_loadPart' hp1))
    exact ⟨_, rfl, h⟩
theorem opTimes1 {X : Cx} : OpR X (binaryOp .Mult) (fun x y H Q => ∃ p xs, x = .ref p ∧ y = .int 1 ∧ SqT X.K H p xs ∧ Q (.ref p) H) := by
  intro pins s σ H x y v u Q I rx ry h
  obtain ⟨p, xs, rfl, rfl, hT, q⟩ := h
  cases rx
  obtain ⟨tk1, rfl⟩ := ry
  obtain ⟨its, _, ⟨⟨cl, dct, dta, slts⟩, ob, hcl, nn, hdt⟩, _⟩ := I.tuple hT
  simp only at hcl hdt
  subst hcl hdt
  exact wpAny_binaryOp_repeat_ref (T := "tuple") (U := "int") (by decide) ⟨_, ob, rfl⟩ (fun st => typeIs_int st 1 tk1) noFill_tuple_mul F.fills_int_mul F.slot_int_rmul repeat_tuple F.slot_int_index.lookup
    (call_meets F.slot_int_rmul (typeIs_int s 1 tk1) F.entry_int_rmul (F.args_int_rmul_2 _ _) (int_rmul_tuple 1 tk1 p its.toArray nn dct slts)
      ⟨ob, rfl, ⟨_, ob, rfl⟩, call_meets F.slot_tuple_mul ⟨_, ob, rfl⟩ F.entry_tuple_mul (F.args_tuple_mul_2 _ _) (tupTimes1 p its.toArray nn dct slts tk1) ⟨ob, ⟨.ref p, H, I, rfl, q⟩⟩⟩)
def pyMulT (x y : W) : M W := fun S => match x, y with
  | .tup xs, .int n => if xs.isEmpty = false ∧ 1 ≤ n ∧ n ≤ 1000 ∧ xs.length ≤ 1000 then .ok (.tup (List.replicate n.toNat xs).flatten) S else .bad
  | _, _ => .bad
theorem o_mulT : S2 m T k c t sc N ow .Mult pyMulT := by
  intro X g E pins s σ H x y v u Q I rx ry ⟨ad, S, w, z, R, rw, rz, h⟩
  obtain ⟨rfl, _⟩ := g
  unfold pyMulT at h
  split at h
  · rename_i xs n
    split at h
    · rename_i hc
      cases rw with
      | tup s1 r1 =>
      cases rz
      by_cases h1 : n = 1
      · subst h1
        refine opTimes1 pins s σ H _ _ v u Q I rx ry ⟨_, _, rfl, rfl, s1, ?_⟩
        have e : (List.replicate (1 : Int).toNat xs).flatten = xs := by simp
        rw [e] at h
        exact run_ok R (.tup s1 r1) h
      · have hne : xs ≠ [] := fun z => by rw [z] at hc; simp at hc
        exact op_repT pins s σ H _ _ v u Q I rx ry ⟨_, _, _, rfl, rfl, s1, fun z => hne (List.eq_nil_of_length_eq_zero (by rw [r1.length, z]; rfl)), by omega, hc.2.2.1, by rw [← r1.length]; exact hc.2.2.2, fun p hp => run_newtup R hp (relWs_rep r1 _) h⟩
    · exact h.elim
  · exact h.elim
end
end RP

/-! RpAB: text * int; tuple > tuple of whole numbers. -/
namespace RP
open PySem L2 PySem.Spec PyProof.Rows
section
variable {m : Mo} {T : Tab} {k : Nat} {c t : Bool} {sc : Scope} {N : List Str} {ow : Ow}
end
end RP

/-! RpAC: set(xs) of keys of any one kind; len(set(xs)) of texts. -/
namespace RP
open PySem L2 PySem.Spec PyProof.Rows
/-- the keys, each once, as they are met -/
def metK {K : Type} [BEq K] (ks : Nat → K) : Nat → List K
  | 0 => []
  | i + 1 => if (metK ks i).any (· == ks i) then metK ks i else metK ks i ++ [ks i]
theorem metK_le {K : Type} [BEq K] (ks : Nat → K) : ∀ i, (metK ks i).length ≤ i
  | 0 => Nat.le_refl _
  | i + 1 => by
    have := metK_le ks i
    unfold metK
    split
    · omega
    · rw [List.length_append]
      show _ + 1 ≤ _
      omega
section
variable {K : Type} [DecidableEq K] [BEq K] [LawfulBEq K] {pr : Program} {wo : World} {knd : KeyKind pr wo K}
theorem metK_any (ks : Nat → K) (i : Nat) (k : K) : (metK ks (i + 1)).any (· == k) = ((metK ks i).any (· == k) || decide (k = ks i)) := by
  have e : (metK ks (i + 1)) = if (metK ks i).any (· == ks i) then metK ks i else metK ks i ++ [ks i] := rfl
  rw [e]
  split
  · rename_i hm
    by_cases z : k = ks i
    · rw [z, hm]; simp
    · simp [z]
  · rw [List.any_append]
    congr 1
    show (ks i == k || false) = _
    rw [Bool.or_false]
    by_cases z : k = ks i
    · rw [z]; simp
    · have : ¬ ks i = k := fun t => z t.symm
      rw [beq_eq_false_iff_ne.mpr this, decide_eq_false z]
theorem metK_len (ks : Nat → K) (i : Nat) : (metK ks (i + 1)).length = if (metK ks i).any (· == ks i) then (metK ks i).length else (metK ks i).length + 1 := by
  show (if (metK ks i).any (· == ks i) then metK ks i else metK ks i ++ [ks i]).length = _
  split
  · rfl
  · rw [List.length_append]; rfl
theorem setLoop {A : Around} {R : Result → Shared → Prop} {it : Addr} {fp wr : List Addr} {G : Array GenState → Array GenState → Prop} {n : Nat} {P : Nat → Value → Prop} {St : Nat → Shared → Prop} (Wk : WalksS pr wo A.in1 it fp wr G n P St) {a : Addr} (nf : a ∉ fp)
    (ks : Nat → K) (isk : ∀ i v, P i v → knd.is (ks i) v = true ∧ v.scannable = true) (hb : n + 1 < scanBound) :
    ∀ (m i : Nat) (s : Shared), n = i + m → St i s → s.heap.SetOf knd a (fun k => (metK ks i).any (· == k)) (metK ks i).length →
      (∀ s2, Moved (a :: wr) G s s2 → s2.heap.SetOf knd a (fun k => (metK ks n).any (· == k)) (metK ks n).length → R (.ok (.ret .none)) s2) →
      codeAny (model pr wo) A (.builtin "set.update.loop" ⟨[.ref a, .ref it], []⟩) R s := by
  have nw : a ∉ wr := fun z => nf (Wk.sub _ z)
  have more : ∀ b ∈ wr, b ∈ a :: wr := fun b z => .tail _ z
  have keep : ∀ {s s2 : Shared} {T : K → Bool} {k : Nat}, Moved wr G s s2 → s.heap.SetOf knd a T k → s2.heap.SetOf knd a T k := fun mv hs => by
    obtain ⟨o, es, ep, tb, ho, rest⟩ := hs
    exact ⟨o, es, ep, tb, mv.heap a _ nw ho, rest⟩
  intro m
  induction m with
  | zero =>
    intro i s hi st hs fin
    have e : n = i := hi
    subst e
    apply codeAny_builtin F.entry_set_update_loop
    rw [Around.under_plainId F.plain_set_update_loop]
    show wpAny _ A.in1 (pyNext (.ref it) >>= _) _ _ s
    exact wpAny_bind (Wk.done s _ _ st fun s2 mv => by
      show wpAny _ A.in1 (PySem.ret Value.none) _ _ s2
      exact wpAny_pure (fin s2 (mv.mono more) (keep mv hs)))
  | succ m ih =>
    intro i s hi st hs fin
    apply codeAny_builtin F.entry_set_update_loop
    rw [Around.under_plainId F.plain_set_update_loop]
    show wpAny _ A.in1 (pyNext (.ref it) >>= _) _ _ s
    refine wpAny_bind (Wk.item i s _ _ (by omega) st fun v s2 hP st2 mv => ?_)
    obtain ⟨key, scn⟩ := isk i v hP
    show wpAny _ A.in1 (holding [v] (setAdd a v) >>= _) _ _ s2
    refine wpAny_bind (wpAny_holding ?_)
    unfold setAdd
    refine wpAny_holding (wpAny_bind (knd.pyHash key ?_))
    have room : (metK ks i).length + 1 < scanBound := by
      have := metK_le ks i
      omega
    have hs2 := keep mv hs
    refine wpAny_setAddHashed_of (s := { s2 with toks := s2.toks + 1 }) key scn hs2 room fun h3 but hs3 => ?_
    have hs4 : h3.SetOf knd a (fun k => (metK ks (i + 1)).any (· == k)) (metK ks (i + 1)).length := SetOf_congr hs3 (fun k => (metK_any ks i k).symm) (metK_len ks i).symm
    have same : ∀ b, b ≠ a → h3.get? b = s2.heap.get? b := fun b z => but.2 b z
    refine wpAny_pure ⟨plainId_quiet F.plain_set_update_loop _, ih (i + 1) _ (by omega) (Wk.frame _ s2 _ _ st2 (Nat.le_succ _) fun b z o e => ?_) hs4 fun s5 mv5 hs5 => fin s5 (Moved.trans Wk.gtrans ((mv.mono more).then_heap (Nat.le_succ _) fun b o z e => ?_) mv5) hs5⟩
    · rw [same b fun t => nf (t ▸ z)]; exact e
    · rw [same b fun t => z (t ▸ List.mem_cons_self)]; exact e
end
/-- texts, each once -/
def onceS (zs : List Str) : List Str := metK (fun i => zs.getD i Str.empty) zs.length
section
variable {m : Mo} {T : Tab} {k : Nat} {c t : Bool} {sc : Scope} {N : List Str} {ow : Ow} {a : Expr} {fa : Slots → M W}
def strsOf : List W → Option (List Str)
  | [] => some []
  | .str z :: r => (strsOf r).map (z :: ·)
  | _ => none
theorem strsOf_rel {K : PySem.W.Frag} {ad : List Addr} {H : Hp} : ∀ {ws : List W} {vs : List V} {zs : List Str}, strsOf ws = some zs → RelWs K ad H ws vs → vs = zs.map V.str
  | [], _, _, e, .nil => by cases e; rfl
  | w :: ws, _, zs, e, .cons r rr => by
    cases w <;> simp only [strsOf] at e <;> try cases e
    cases r
    cases q : strsOf ws with
    | none => rw [q] at e; cases e
    | some cs =>
      rw [q] at e
      cases e
      rw [strsOf_rel q rr]
      rfl
end
end RP

/-! RpAD: list.extend, list.pop(i). -/
namespace RP
open PySem L2
section
variable {m : Mo} {T : Tab} {k : Nat} {c t : Bool} {sc : Scope} {N : List Str} {ow : Ow}
def extendM (w : W) (ws : List W) : M W := fun S => match w, ws with
  | .ref i, [.ref j] => match S[i]?, S[j]? with
    | some (.lst xs), some (.lst ys) => if xs.length + ys.length ≤ sizeLine then .ok .non (S.set i (.lst (xs ++ ys))) else .bad
    | _, _ => .bad
  | _, _ => .bad
theorem m_extend : SM m T k c t sc N ow "list.extend" extendM := fun X g E pins s σ H x xs v us Q I rx rs ⟨ad, S, w, ws, R, rw', rws, h⟩ => by
  obtain ⟨rfl, _⟩ := g
  unfold extendM at h
  split at h
  · cases rw' with
    | ref e1 =>
    match xs, rws with
    | [_], .cons (.ref e2) .nil =>
      split at h
      · rename_i ys zs h1 h2
        split at h
        · rename_i hz
          obtain ⟨vs, q, r1⟩ := R.lst e1 h1
          obtain ⟨us', q2, r2⟩ := R.lst e2 h2
          exact mt_extend pins s σ H _ _ v us Q I rx rs ⟨_, _, vs, us', rfl, rfl, q, q2, by rw [← r1.length, ← r2.length]; exact hz, run_wlst R e1 q (r1.append r2) .non h⟩
        · exact h.elim
      · exact h.elim
  · exact h.elim
end
end RP

/-! RpAE: xs[i] op= v; min of a list of data. -/
namespace RP
open PySem L2 PySem.Spec PyProof.Rows
open PySem.W (alike dataLt AlikeAll iter_listW moved_old cmpIn_lt)
section
variable {m : Mo} {T : Tab} {k : Nat} {c t : Bool} {sc : Scope} {N : List Str} {ow : Ow} {o b e : Expr} {fo fb fe : Slots → M W} {tpos pos : Pos}
end
def alikeB (ds : List PyData) : Bool := ds.all fun x => (match x with | .none => false | _ => true) && ds.all fun y => alike x y
theorem alikeB_all {ds : List PyData} (h : alikeB ds = true) : AlikeAll ds := by
  unfold alikeB at h
  rw [List.all_eq_true] at h
  refine ⟨fun x hx y hy => ?_, fun x hx => ?_⟩
  · have := h x hx
    rw [Bool.and_eq_true, List.all_eq_true] at this
    exact this.2 y hy
  · have := h x hx
    rw [Bool.and_eq_true] at this
    rintro rfl
    exact absurd this.1 (by simp)
section
variable {m : Mo} {T : Tab} {k : Nat} {c t : Bool} {sc : Scope} {N : List Str} {ow : Ow}
end
end RP

/-! RpAF: tuple == tuple, tuple != tuple, items with an own == among them; where they are equal. -/
namespace GQ
open PySem PySem.SeqAt
open AutoSeq1 (wpAny_loadPart')
open MeetsSeq MeetsSeq2 MeetsSeq3 SeqRoads2
section
variable {prog : Program} {w : World} {A : Around} {R : Result → Shared → Prop}
end
section
variable {prog : Program} {w : World} {A : Around} {E : Value → Shared → Prop} {s : Shared}
end
end GQ
namespace RP
open PySem L2 PySem.Spec PyProof.Rows
section
variable {m : Mo} {T : Tab} {k : Nat} {c t : Bool} {sc : Scope} {N : List Str} {ow : Ow} {cc n : Nat} {ga : Addr} {g1 : List W → M W}
end
end RP

/-! RpAG: what is known of a state goes on to a later one. -/
namespace RP
open PySem L2
theorem _root_.Eq.up {S S' : Sto} {i : Nat} {o : Ob} (h : S[i]? = some o) (p : S <+: S') : S'[i]? = some o := Ext.get p h
theorem _root_.List.IsPrefix.up {S0 S S' : Sto} (h : S0 <+: S) (p : S <+: S') : S0 <+: S' := h.trans p
theorem Row.up {S S' : Sto} {r : Nat} (h : Row S r) (e : S <+: S') : Row S' r := h.fr e
theorem Fr.up {r : Nat} {S0 S S' : Sto} (h : Fr r S0 S) (e : S <+: S') : Fr r S0 S' := h.trans (Ext.fr e)
theorem pre1 {S : Sto} {o : Ob} : S <+: S ++ [o] := List.prefix_append _ _
end RP

/-! RpAH: comprehensions of two clauses. -/
namespace RP
open PySem L2
/-- the outer loop of a comprehension of two clauses; the inner one is lcM -/
def lc2M (v : View) (g : W → Slots → M Slots) (fi1 : Slots → M View) (g1 : W → Slots → M Slots) (test : Slots → M Bool) (elt : Slots → M W) (own1 : List Nat) (sl0 : Slots) : Nat → Nat → List W → M (List W)
  | 0, _, _ => stuck
  | f + 1, n, acc => fun S => match v S with
    | none => .bad
    | some ws => match ws[n]? with
      | none => .ok acc S
      | some w => match g w sl0 S with
        | .ok sl1 S1 => match fi1 sl1 S1 with
          | .ok v1 S2 => match v1 S2 with
            | none => .bad
            | some ws1 => match lcM v1 g1 test elt (wipeS sl1 own1) (ws1.length + 1) 0 acc S2 with
              | .ok acc' S3 => lc2M v g fi1 g1 test elt own1 sl0 f (n + 1) acc' S3
              | _ => .bad
          | _ => .bad
        | _ => .bad
def lc2V (v : View) (g : W → Slots → M Slots) (fi1 : Slots → M View) (g1 : W → Slots → M Slots) (test : Slots → M Bool) (elt : Slots → M W) (own1 : List Nat) (sl0 : Slots) : M W := fun S => match v S with
  | none => .bad
  | some ws => match lc2M v g fi1 g1 test elt own1 sl0 (ws.length + 1) 0 [] S with
    | .ok acc S' => .ok (.ref S'.length) (S' ++ [.lst acc])
    | _ => .bad
theorem Up.trans {K : PySem.W.Frag} {ad ad' ad2 : List Addr} {H H' H2 : Hp} (a : Up K ad H ad' H') (b : Up K ad' H' ad2 H2) : Up K ad H ad2 H2 := ⟨a.pre.trans b.pre, fun c vs h => b.fwd c vs (a.fwd c vs h), fun c q n e => b.cod c q (a.cod c q n e).2 (a.cod c q n e).1⟩
section
variable {m : Mo} {T : Tab} {k : Nat} {c t : Bool} {sc : Scope} {N : List Str} {ow : Ow} {tg iter tg1 iter1 elt : Expr} {ifs : List Expr} {scope : Scope} {gt gt1 : Tgt} {fi fi1 : Slots → M View} {ft : Slots → M Bool} {fe : Slots → M W} {pos : Pos}
theorem lc2_run {K : PySem.W.Frag} {ad : List Addr} {H : Hp} {S : Sto} {sl : Slots} {σ : L2.St} {Q : VK} {E : XK} {J : It} {v : View} {own own1 : List Nat} (R : Rel T K ad H S) (L : RelSl K ad H sl σ) (rJ : RelIt T K ad H v J) (hix : ∀ i ∈ gt.ix, i ∈ own) (hix1 : ∀ i ∈ gt1.ix, i ∈ own1)
    (h : run T K ad H (lc2V v gt.g fi1 gt1.g ft fe own1 (wipeS sl own) S) Q E) : ∀ D, H D = none → ∃ Wv : Nat → Nat → Hp → Prop, (∃ m, Wv 0 m (upd H D (.lst []))) ∧ ∀ i m H, Wv i m H →
  (J.stop i H ∧ Q (.ref D) H) ∨ (J.go i H ∧ ∃ Nx : Hp → Prop, (∀ H', Nx H' → ∃ m', m' < m ∧ Wv (i + 1) m' H') ∧ ∀ x H', J.yld i H x H' → gt.t K x (L2.wipe σ own) H' fun σ2 H2 => L2.wipe σ2 own = L2.wipe σ own ∧ rdT T K (fun _ => ret true) (fun _ _ _ _ => False) σ2 H2 fun b H3 =>
    if b = true then rdI T K fi1 (fun _ _ _ _ => False) σ2 H3 fun J1 H4 => ∃ W1 : Nat → Nat → Hp → Prop, (∃ m, W1 0 m H4) ∧ ∀ j k H, W1 j k H →
      (J1.stop j H ∧ Nx H) ∨ (J1.go j H ∧ ∃ Nx1 : Hp → Prop, (∀ H', Nx1 H' → ∃ k', k' < k ∧ W1 (j + 1) k' H') ∧ ∀ x H', J1.yld j H x H' → gt1.t K x (L2.wipe σ2 own1) H' fun σ3 H5 => L2.wipe σ3 own1 = L2.wipe σ2 own1 ∧ rdT T K ft (fun _ _ _ _ => False) σ3 H5 fun b H6 =>
        if b = true then rd T K fe (fun _ _ _ _ => False) σ3 H6 fun y H7 => ∃ acc, H7 D = some (.lst acc) ∧ acc.length < sizeLine ∧ Nx1 (upd H7 D (.lst (acc ++ [y]))) else Nx1 H6)
    else Nx H3) := by
  intro D hD
  unfold lc2V at h
  split at h
  · exact h.elim
  · rename_i ws0 e0
    generalize hf : ws0.length + 1 = fuel at h
    refine ⟨fun i n H1 => ∃ ad1 S1 acc vs, Le K ad H ad1 H1 ∧ D ∉ ad1 ∧ Rel T K ad1 H1 S1 ∧ H1 D = some (.lst vs) ∧ RelWs K ad1 H1 acc vs ∧
      run T K ad H (match lc2M v gt.g fi1 gt1.g ft fe own1 (wipeS sl own) n i acc S1 with | .ok acc S' => .ok (.ref S'.length) (S' ++ [.lst acc]) | _ => .bad) Q E, ?_, ?_⟩
    · exact ⟨fuel, ad, S, [], [], Le.same0 (same_new hD), R.new hD, R.same (same_new hD), upd_same, .nil, h⟩
    · rintro i n H1 ⟨ad1, S1, acc, vs, l1, hd1, R1, eD, ra, h1⟩
      cases n with
      | zero => exact h1.elim
      | succ n =>
        unfold lc2M at h1
        cases ev : v S1 with
        | none => rw [ev] at h1; exact h1.elim
        | some ws =>
          rw [ev] at h1
          dsimp only at h1
          obtain ⟨go, stop, yld⟩ := rJ ad1 H1 S1 l1.up R1 ws ev i
          cases ew : ws[i]? with
          | none =>
            rw [ew] at h1
            refine .inl ⟨stop (List.getElem?_eq_none_iff.mp ew), ?_⟩
            refine h1 (ad1 ++ [D]) H1 (.ref D) (l1.take hD fun p z => by rw [eD] at z; cases z) (R1.take hd1 eD ra) (.ref (by rw [← R1.len]; simp))
          | some w =>
            rw [ew] at h1
            dsimp only at h1
            refine .inr ⟨go (List.getElem?_eq_some_iff.mp ew).1, fun H' => ∃ ad1 S1 acc vs, Le K ad H ad1 H' ∧ D ∉ ad1 ∧ Rel T K ad1 H' S1 ∧ H' D = some (.lst vs) ∧ RelWs K ad1 H' acc vs ∧
              run T K ad H (match lc2M v gt.g fi1 gt1.g ft fe own1 (wipeS sl own) n (i + 1) acc S1 with | .ok acc S' => .ok (.ref S'.length) (S' ++ [.lst acc]) | _ => .bad) Q E, fun H' hN => ⟨n, Nat.lt_succ_self n, hN⟩, fun x H2 y => ?_⟩
            obtain ⟨sm, rx⟩ := yld x H2 y w ew
            have l2 : Le K ad1 H1 ad1 H2 := Le.same0 sm
            have R2 := R1.same sm
            cases eg : gt.g w (wipeS sl own) S1 with
            | ok sl2 S2 =>
              rw [eg] at h1
              dsimp only at h1
              refine tgt_run R2 (((L.mono l1).mono l2).wipe own) rx eg fun σ2 eS L2 hw => ⟨?_, ?_⟩
              · rw [hw own hix]
                exact wipe_wipe σ own
              subst eS
              refine ⟨ad1, S2, sl2, R2, L2, ?_⟩
              intro ad3 H3 l3 R3
              rw [if_pos rfl]
              refine ⟨ad3, S2, sl2, R3, L2.mono l3, ?_⟩
              have keepD : ∀ {ad3 : List Addr} {H3 : Hp}, Le K ad1 H2 ad3 H3 → H3 D = some (.lst vs) ∧ D ∉ ad3 := fun {ad3 H3} l3 => by
                refine ⟨l3.frm D _ (sm _ _ eD) trivial hd1, fun hm => ?_⟩
                exact l3.new D hm hd1 _ (sm _ _ eD) trivial
              cases ei : fi1 sl2 S2 with
              | ok v1 S4 =>
                rw [ei] at h1
                dsimp only at h1
                intro ad4 H4 J1 l4 R4 rJ1
                cases ev1 : v1 S4 with
                | none => rw [ev1] at h1; exact h1.elim
                | some ws1 =>
                  rw [ev1] at h1
                  dsimp only at h1
                  obtain ⟨eD4, hd4⟩ := keepD (l3.trans l4)
                  have lA : Le K ad H ad4 H4 := ((l1.trans l2).trans l3).trans l4
                  have L4 : RelSl K ad4 H4 sl2 σ2 := (L2.mono l3).mono l4
                  refine ⟨fun j kk H5 => ∃ ad5 S5 acc5 vs5, Le K ad H ad5 H5 ∧ Up K ad4 H4 ad5 H5 ∧ D ∉ ad5 ∧ Rel T K ad5 H5 S5 ∧ H5 D = some (.lst vs5) ∧ RelWs K ad5 H5 acc5 vs5 ∧
                    run T K ad H (match (match lcM v1 gt1.g ft fe (wipeS sl2 own1) kk j acc5 S5 with | .ok acc' S3 => lc2M v gt.g fi1 gt1.g ft fe own1 (wipeS sl own) n (i + 1) acc' S3 | _ => .bad) with | .ok acc S' => .ok (.ref S'.length) (S' ++ [.lst acc]) | _ => .bad) Q E, ⟨ws1.length + 1, ad4, S4, acc, vs, lA, Le.refl.up, hd4, R4, eD4, (((ra.mono l2).mono l3).mono l4), h1⟩, ?_⟩
                  rintro j kk H5 ⟨ad5, S5, acc5, vs5, l5, u5, hd5, R5, eD5, ra5, h5⟩
                  cases kk with
                  | zero => exact h5.elim
                  | succ kk =>
                    unfold lcM at h5
                    cases ev5 : v1 S5 with
                    | none => rw [ev5] at h5; exact h5.elim
                    | some ws5 =>
                      rw [ev5] at h5
                      dsimp only at h5
                      obtain ⟨go1, stop1, yld1⟩ := rJ1 ad5 H5 S5 u5 R5 ws5 ev5 j
                      cases ew5 : ws5[j]? with
                      | none =>
                        rw [ew5] at h5
                        exact .inl ⟨stop1 (List.getElem?_eq_none_iff.mp ew5), ad5, S5, acc5, vs5, l5, hd5, R5, eD5, ra5, h5⟩
                      | some w5 =>
                        rw [ew5] at h5
                        dsimp only at h5
                        refine .inr ⟨go1 (List.getElem?_eq_some_iff.mp ew5).1, fun H' => ∃ ad5 S5 acc5 vs5, Le K ad H ad5 H' ∧ Up K ad4 H4 ad5 H' ∧ D ∉ ad5 ∧ Rel T K ad5 H' S5 ∧ H' D = some (.lst vs5) ∧ RelWs K ad5 H' acc5 vs5 ∧
                          run T K ad H (match (match lcM v1 gt1.g ft fe (wipeS sl2 own1) kk (j + 1) acc5 S5 with | .ok acc' S3 => lc2M v gt.g fi1 gt1.g ft fe own1 (wipeS sl own) n (i + 1) acc' S3 | _ => .bad) with | .ok acc S' => .ok (.ref S'.length) (S' ++ [.lst acc]) | _ => .bad) Q E, fun H' hN => ⟨kk, Nat.lt_succ_self kk, hN⟩, fun x5 H6 y5 => ?_⟩
                        obtain ⟨sm6, rx6⟩ := yld1 x5 H6 y5 w5 ew5
                        have l6 : Le K ad5 H5 ad5 H6 := Le.same0 sm6
                        have R6 := R5.same sm6
                        cases eg6 : gt1.g w5 (wipeS sl2 own1) S5 with
                        | ok sl6 S6 =>
                          rw [eg6] at h5
                          dsimp only at h5
                          refine tgt_run R6 (((L4.up u5).mono l6).wipe own1) rx6 eg6 fun σ6 eS6 L6 hw6 => ⟨?_, ?_⟩
                          · rw [hw6 own1 hix1]
                            exact wipe_wipe σ2 own1
                          subst eS6
                          refine ⟨ad5, S6, sl6, R6, L6, ?_⟩
                          have keepD6 : ∀ {ad7 : List Addr} {H7 : Hp}, Le K ad5 H6 ad7 H7 → H7 D = some (.lst vs5) ∧ D ∉ ad7 := fun {ad7 H7} l7 => by
                            refine ⟨l7.frm D _ (sm6 _ _ eD5) trivial hd5, fun hm => ?_⟩
                            exact l7.new D hm hd5 _ (sm6 _ _ eD5) trivial
                          cases et6 : ft sl6 S6 with
                          | ok b S7 =>
                            rw [et6] at h5
                            intro ad7 H7 l7 R7
                            obtain ⟨eD7, hd7⟩ := keepD6 l7
                            cases b with
                            | false =>
                              rw [if_neg Bool.false_ne_true]
                              exact ⟨ad7, S7, acc5, vs5, (l5.trans l6).trans l7, u5.trans (l6.trans l7).up, hd7, R7, eD7, (ra5.mono l6).mono l7, h5⟩
                            | true =>
                              rw [if_pos rfl]
                              dsimp only at h5
                              refine ⟨ad7, S7, sl6, R7, L6.mono l7, ?_⟩
                              cases ee7 : fe sl6 S7 with
                              | ok yw S8 =>
                                rw [ee7] at h5
                                dsimp only at h5
                                intro ad8 H8 yv l8 R8 ry
                                obtain ⟨eD8, hd8⟩ := keepD6 (l7.trans l8)
                                by_cases hz : acc5.length < sizeLine
                                · rw [if_pos hz] at h5
                                  have ra8 := ((ra5.mono l6).mono l7).mono l8
                                  have b9 : But D H8 (upd H8 D (.lst (vs5 ++ [yv]))) := But.upd eD8 trivial
                                  have u9 : Up K ad8 H8 ad8 (upd H8 D (.lst (vs5 ++ [yv]))) := ⟨List.prefix_rfl, fun a xs q => by
                                    rcases q with (q | ⟨o, q⟩) | q
                                    · exact .inl (.inl (b9.tup _ _ q))
                                    · exact .inl (.inr ⟨o, b9.keep _ _ (fun z => by rw [z, eD8] at q; cases q) trivial q⟩)
                                    · exact .inr q, fun c q n e => ⟨b9.keep _ _ (fun z => by rw [z, eD8] at e; cases e) trivial e, n⟩⟩
                                  exact ⟨vs5, eD8, by rw [← ra8.length]; exact hz, ad8, S8, acc5 ++ [yw], vs5 ++ [yv], (((l5.trans l6).trans l7).trans l8).off hD eD8, (u5.trans ((l6.trans l7).trans l8).up).trans u9, hd8, R8.off hd8 u9 b9 (by intro x; rw [eD8]; intro z; cases z) (by intro x; rw [eD8]; intro z; cases z) (by intro x; rw [eD8]; intro z; cases z), upd_same, (ra8.append (.cons ry .nil)).up u9, h5⟩
                                · rw [if_neg hz] at h5; exact h5.elim
                              | ex x S => rw [ee7] at h5; exact h5.elim
                              | bad => rw [ee7] at h5; exact h5.elim
                          | ex x S => rw [et6] at h5; exact h5.elim
                          | bad => rw [et6] at h5; exact h5.elim
                        | ex x S => rw [eg6] at h5; exact h5.elim
                        | bad => rw [eg6] at h5; exact h5.elim
              | ex x S => rw [ei] at h1; exact h1.elim
              | bad => rw [ei] at h1; exact h1.elim
            | ex x S => rw [eg] at h1; exact h1.elim
            | bad => rw [eg] at h1; exact h1.elim
theorem lc2_pi {own : List (Str × Nat)} {own1 : List Nat} (hix : ∀ i ∈ gt.ix, i ∈ own.map (·.2)) (hix1 : ∀ i ∈ gt1.ix, i ∈ own1) {Wx : WX} {σ : L2.St} {H : Hp} {Q : VK} (h : rd T m.K (fun sl => bdI (fi sl) fun v => lc2V v gt.g fi1 gt1.g ft fe own1 (wipeS sl (own.map (·.2)))) Wx σ H Q) :
    tLc2 (rdI T m.K fi Wx) (gt.t m.K) (rdT T m.K (fun _ => ret true) (fun _ _ _ _ => False)) (rdI T m.K fi1 (fun _ _ _ _ => False)) (gt1.t m.K) (rdT T m.K ft (fun _ _ _ _ => False)) (rd T m.K fe (fun _ _ _ _ => False)) (own.map (·.2)) own1 σ H Q := by
  obtain ⟨ad, S, sl, R, L, h⟩ := h
  refine ⟨ad, S, sl, R, L, runI_imp (run_bdI h) ?_⟩
  rintro J H1 ⟨ad1, S1, v, l1, R1, r1, h1⟩
  exact lc2_run R1 (L.mono l1) r1 hix hix1 h1
/-- name = [.. for .. for ..], the name a local, on one line -/
theorem s_setLc2 (own : List (Str × Nat)) (own1 : List Nat) (i : Nat) {y : Str} {py spos : Pos} (hc : c = true) (hi : SIt m T k c t sc N ow tg iter fi) (hok : blkC N sc scope own = true) (hg : STg m T k c false (relS scope sc) N (ow0 (cellsOf scope)) tg gt)
    (hi1 : SIt m T k c false (relS scope sc) N (ow0 (cellsOf scope)) tg1 iter1 fi1) (hg1 : STg m T k c false (relS scope sc) N (ow0 (cellsOf scope)) tg1 gt1) (ht : STs m T k c false (relS scope sc) N (ow0 (cellsOf scope)) ifs ft)
    (he : SE m T k c false (relS scope sc) N (ow0 (cellsOf scope)) elt fe) (hix : ∀ i ∈ gt.ix, i ∈ own.map (·.2) := by decide) (hix1 : ∀ i ∈ gt1.ix, i ∈ own1 := by decide) (hv : ∀ i ∈ own1, i ∈ own.map (·.2) := by decide)
    (hy : N[i]? = some y := by rfl) (hyl : sc.names.lookup y = some .local := by rfl) (hk : sc.kind = .function := by rfl) (hl : (py.line == pos.line) = true := by rfl)
    (ha : (scope.names.any fun (n, k) => n == y && (k == .local || k == .cell)) = false := by decide +kernel) (hs : ∀ env x, foldedSetIterable iter env x = pure x := by intro _ _; rfl) (hs1 : ∀ env x, foldedSetIterable iter1 env x = pure x := by intro _ _; rfl) :
    SS m T k c t sc N ow (.Assign [.Name y py] (.ListComp elt [⟨tg, iter, [], 0⟩, ⟨tg1, iter1, ifs, 0⟩] scope pos) spos) (fun sl => exS sl (bdI (fi sl) fun v => lc2V v gt.g fi1 gt1.g ft fe own1 (wipeS sl (own.map (·.2)))) fun w => ret (.nx (sl.set i (some w)))) := fun X g Wx tk => by
  have ok := blkOk_by hok
  refine (ps_setLc2 (i := i) (own := own) (vs1 := own1) (g.calm hc) (by rw [g.hN]; exact g.nd) (by rw [g.hN]; exact hy) (by rw [g.hsc]; exact hyl) (sw_true (by rw [g.hsc]; exact hk) (by rw [g.hsc]; exact hyl) hl ha) (hi X g Wx tk) (by rw [g.hN, g.hsc]; exact ok) hv (fun s H C cl fp => hg _ (good_blk g ok.uniq s H C cl fp)) (fun s H C cl fp => ts_nil (T := T) _ (good_blk g ok.uniq s H C cl fp) _ takes_blk)
    (fun s H C cl fp => hi1 _ (good_blk g ok.uniq s H C cl fp) _ takes_blk) (fun s H C cl fp => hg1 _ (good_blk g ok.uniq s H C cl fp)) (fun s H C cl fp => ht _ (good_blk g ok.uniq s H C cl fp) _ takes_blk)
    (fun s H C cl fp => he _ (good_blk g ok.uniq s H C cl fp) _ takes_blk) (hs _) hs1).imp fun D σ H h => ?_
  obtain ⟨ad, S, sl, R, L, h⟩ := h
  refine lc2_pi hix hix1 ⟨ad, S, sl, R, L, run_imp (run_exS L h) ?_⟩
  rintro v H1 ⟨ad1, S1, w1, l1, R1, r1, h1⟩
  exact runS_nx R1 ((L.mono l1).set r1 i) h1
end
end RP

/-! RpAI: dicts with keys that are ints and texts. -/
namespace RP
open PySem L2
def dctOf (S : Sto) : W → Option (Nat × List (Key × W))
  | .ref i => match S[i]? with
    | some (.dct kvs) => some (i, kvs)
    | _ => none
  | _ => none
def dnewM : M W := fun S => .ok (.ref S.length) (S ++ [.dct []])
def dgetM (d k : W) : M W := fun S => match dctOf S d, keyOf k with
  | some (_, kvs), some k => match lookK kvs k with
    | some v => .ok v S
    | none => .bad
  | _, _ => .bad
def dget2M (d k x : W) : M W := fun S => match dctOf S d, keyOf k with
  | some (_, kvs), some k => .ok ((lookK kvs k).getD x) S
  | _, _ => .bad
def dputM (d k v : W) : M Unit := fun S => match dctOf S d, keyOf k with
  | some (i, kvs), some k => if kvs.length < sizeLine then .ok () (S.set i (.dct (putKW kvs k v))) else .bad
  | _, _ => .bad
def dsetdM (d k x : W) : M W := fun S => match dctOf S d, keyOf k with
  | some (i, kvs), some k => if kvs.length < sizeLine then (match lookK kvs k with
    | some v => .ok v S
    | none => .ok x (S.set i (.dct (putKW kvs k x)))) else .bad
  | _, _ => .bad
def lenDM (ws : List W) : M W := fun S => match ws with
  | [d] => match dctOf S d with
    | some (_, kvs) => .ok (.int kvs.length) S
    | none => .bad
  | _ => .bad
section
variable {m : Mo} {T : Tab} {k : Nat} {c t : Bool} {sc : Scope} {N : List Str} {ow : Ow} {a b d e : Expr} {fa fb fd fe : Slots → M W} {pos : Pos}
theorem dctOf_rel {K : PySem.W.Frag} {ad : List Addr} {H : Hp} {S : Sto} {w : W} {v : V} {i : Nat} {kvs : List (Key × W)} (R : Rel T K ad H S) (r : RelW K ad H w v) (e : dctOf S w = some (i, kvs)) :
    ∃ p vs, v = .ref p ∧ ad[i]? = some p ∧ S[i]? = some (.dct kvs) ∧ H p = some (.dK ((kvs.map (·.1)).zip vs)) ∧ RelWs K ad H (kvs.map (·.2)) vs := by
  cases w with
  | ref j =>
    simp only [dctOf] at e
    cases q : S[j]? with
    | none => rw [q] at e; cases e
    | some o =>
      rw [q] at e
      cases o with
      | dct kv =>
        simp only [Option.some.injEq, Prod.mk.injEq] at e
        obtain ⟨rfl, rfl⟩ := e
        cases r with
        | ref e1 =>
          obtain ⟨vs, h1, h2⟩ := R.ob j _ _ e1 q
          exact ⟨_, vs, rfl, e1, q, h1, h2⟩
      | _ => cases e
  | _ => cases e
theorem dK_len {kvs : List (Key × W)} {vs : List V} {K : PySem.W.Frag} {ad : List Addr} {H : Hp} (r : RelWs K ad H (kvs.map (·.2)) vs) : ((kvs.map (·.1)).zip vs).length = kvs.length := by
  have := r.length
  rw [List.length_map] at this
  rw [List.length_zip, List.length_map]
  omega
/-- {} -/
theorem e_dnew : SE m T k c t sc N ow (.Dict [] [] pos) (fun _ => dnewM) := fun X g Wx tk => by
  refine pe_dnewK.imp fun σ H Q h => ?_
  obtain ⟨ad, S, sl, R, L, h⟩ := h
  intro p hp
  exact run_alloc (o := .dct []) R hp (show RelOb T m.K (ad ++ [p]) _ p (.dct []) from ⟨[], upd_same, .nil⟩) h
/-- d[k] -/
theorem e_dget (ha : SE m T k c t sc N ow a fa) (hb : SE m T k c t sc N ow b fb) (hc : c = true) (hs : NoSl b := by intro _ _; rfl) : SE m T k c t sc N ow (.Subscript a b pos) (fun s => bd (fa s) fun x => bd (fb s) fun y => dgetM x y) := fun X g Wx tk => by
  have hu : X.A.units + 1 < cLine := by have := g.un; omega
  have ha := ha X g Wx tk
  have hb := hb X g Wx tk
  obtain ⟨rfl, _⟩ := g
  refine (pe_dget hu ha hb hs).imp fun σ H Q h => ?_
  obtain ⟨ad, S, sl, R, L, h⟩ := h
  refine ⟨ad, S, sl, R, L, run_imp (run_bd h) ?_⟩
  rintro v H1 ⟨ad1, S1, w1, l1, R1, r1, h1⟩
  refine ⟨ad1, S1, sl, R1, L.mono l1, run_imp (run_bd h1) ?_⟩
  rintro u H2 ⟨ad2, S2, w2, l2, R2, r2, h2⟩
  unfold dgetM at h2
  cases q : dctOf S2 w1 with
  | none => rw [q] at h2; exact h2.elim
  | some p =>
    obtain ⟨i, kvs⟩ := p
    rw [q] at h2
    cases q2 : keyOf w2 with
    | none => rw [q2] at h2; exact h2.elim
    | some kk =>
      rw [q2] at h2
      dsimp only at h2
      obtain ⟨p, vs, rfl, e1, e2, e3, e4⟩ := dctOf_rel R2 (r1.mono l2) q
      rw [keyOf_rel q2 r2]
      rcases look_rel (k := kk) e4 with ⟨z1, z2⟩ | ⟨w, v, z1, z2, z3⟩
      · rw [z1] at h2; exact h2.elim
      · rw [z1] at h2
        refine ⟨p, v, rfl, ?_, run_ok R2 z3 h2⟩
        rw [← z2]
        exact DGet.k e3
/-- d.get(k, x) -/
theorem e_dget2 {apos cpos : Pos} (hd : SE m T k c t sc N ow d fd) (hb : SE m T k c t sc N ow b fb) (he : SE m T k c t sc N ow e fe) (m2 : ∀ X, Good m k c t sc N ow X → M2 X d "get" apos b e cpos := by intro X _; exact ⟨rfl, rfl, rfl, rfl⟩) :
    SE m T k c t sc N ow (.Call (.Attribute d "get" apos) [b, e] [] cpos) (fun s => bd (fd s) fun x => fun S => match dctOf S x with | none => .bad | some _ => (bd (fb s) fun y => bd (fe s) fun z => dget2M x y z) S) := fun X g Wx tk => by
  have hu : X.A.units + 1 < cLine := by have := g.un; omega
  have hd := hd X g Wx tk
  have hb := hb X g Wx tk
  have he := he X g Wx tk
  have mm := m2 X g
  obtain ⟨rfl, _⟩ := g
  refine (pe_dget2 hu hd hb he mm).imp fun σ H Q h => ?_
  obtain ⟨ad, S, sl, R, L, h⟩ := h
  refine ⟨ad, S, sl, R, L, run_imp (run_bd h) ?_⟩
  rintro v H1 ⟨ad1, S1, w1, l1, R1, r1, h1⟩
  cases q0 : dctOf S1 w1 with
  | none => rw [q0] at h1; exact h1.elim
  | some p0 =>
    rw [q0] at h1
    dsimp only at h1
    obtain ⟨i0, kvs0⟩ := p0
    obtain ⟨p, vs0, rfl, e01, e02, e03, e04⟩ := dctOf_rel R1 r1 q0
    refine ⟨p, rfl, .inl ⟨_, .inl e03⟩, ad1, S1, sl, R1, L.mono l1, run_imp (run_bd h1) ?_⟩
    rintro u H2 ⟨ad2, S2, w2, l2, R2, r2, h2⟩
    refine ⟨ad2, S2, sl, R2, (L.mono l1).mono l2, run_imp (run_bd h2) ?_⟩
    rintro x H3 ⟨ad3, S3, w3, l3, R3, r3, h3⟩
    unfold dget2M at h3
    cases q : dctOf S3 w1 with
    | none => rw [q] at h3; exact h3.elim
    | some pp =>
      obtain ⟨i, kvs⟩ := pp
      rw [q] at h3
      cases q2 : keyOf w2 with
      | none => rw [q2] at h3; exact h3.elim
      | some kk =>
        rw [q2] at h3
        dsimp only at h3
        obtain ⟨p', vs, ep, e1, e2, e3, e4⟩ := dctOf_rel R3 ((r1.mono l2).mono l3) q
        cases ep
        rw [keyOf_rel q2 (r2.mono l3)]
        rcases look_rel (k := kk) e4 with ⟨z1, z2⟩ | ⟨w, v, z1, z2, z3⟩
        · rw [z1] at h3
          refine ⟨none, by rw [← z2]; exact DGet.k e3, run_ok R3 r3 h3⟩
        · rw [z1] at h3
          refine ⟨some v, by rw [← z2]; exact DGet.k e3, run_ok R3 z3 h3⟩
theorem put_run {K : PySem.W.Frag} {ad : List Addr} {H : Hp} {S : Sto} {i : Nat} {p : Addr} {kvs : List (Key × W)} {vs : List V} {kk : Key} {w : W} {v : V} (R : Rel T K ad H S) (e1 : ad[i]? = some p) (e3 : H p = some (.dK ((kvs.map (·.1)).zip vs))) (e4 : RelWs K ad H (kvs.map (·.2)) vs) (rv : RelW K ad H w v) :
    Le K ad H ad (upd H p (.dK (putK ((kvs.map (·.1)).zip vs) kk v))) ∧ Rel T K ad (upd H p (.dK (putK ((kvs.map (·.1)).zip vs) kk v))) (S.set i (.dct (putKW kvs kk w))) := by
  have b5 : But p H (upd H p (.dK (putK ((kvs.map (·.1)).zip vs) kk v))) := But.upd e3 trivial
  have hf : ∀ o u, H p ≠ some (.frz o (.tup u)) := fun o u z => by rw [e3] at z; cases z
  have l5 := b5.le (K := K) hf (List.mem_of_getElem? e1) (R.keen e1)
  obtain ⟨us, p1, p2⟩ := putK_rel (k := kk) rv e4
  exact ⟨l5, R.write e1 b5 hf ⟨us, by rw [upd_same, p1], p2.mono l5⟩⟩
/-- d.setdefault(k, x) -/
theorem e_dsetd {apos cpos : Pos} (hd : SE m T k c t sc N ow d fd) (hb : SE m T k c t sc N ow b fb) (he : SE m T k c t sc N ow e fe) (m2 : ∀ X, Good m k c t sc N ow X → M2 X d "setdefault" apos b e cpos := by intro X _; exact ⟨rfl, rfl, rfl, rfl⟩) :
    SE m T k c t sc N ow (.Call (.Attribute d "setdefault" apos) [b, e] [] cpos) (fun s => bd (fd s) fun x => fun S => match dctOf S x with | none => .bad | some _ => (bd (fb s) fun y => bd (fe s) fun z => dsetdM x y z) S) := fun X g Wx tk => by
  have hd := hd X g Wx tk
  have hb := hb X g Wx tk
  have he := he X g Wx tk
  have mm := m2 X g
  obtain ⟨rfl, _⟩ := g
  refine (pe_dsetd hd hb he mm).imp fun σ H Q h => ?_
  obtain ⟨ad, S, sl, R, L, h⟩ := h
  refine ⟨ad, S, sl, R, L, run_imp (run_bd h) ?_⟩
  rintro v H1 ⟨ad1, S1, w1, l1, R1, r1, h1⟩
  cases q0 : dctOf S1 w1 with
  | none => rw [q0] at h1; exact h1.elim
  | some p0 =>
    rw [q0] at h1
    dsimp only at h1
    obtain ⟨i0, kvs0⟩ := p0
    obtain ⟨p, vs0, rfl, e01, e02, e03, e04⟩ := dctOf_rel R1 r1 q0
    refine ⟨p, rfl, .inl ⟨_, .inl e03⟩, ad1, S1, sl, R1, L.mono l1, run_imp (run_bd h1) ?_⟩
    rintro u H2 ⟨ad2, S2, w2, l2, R2, r2, h2⟩
    refine ⟨ad2, S2, sl, R2, (L.mono l1).mono l2, run_imp (run_bd h2) ?_⟩
    rintro x H3 ⟨ad3, S3, w3, l3, R3, r3, h3⟩
    unfold dsetdM at h3
    cases q : dctOf S3 w1 with
    | none => rw [q] at h3; exact h3.elim
    | some pp =>
      obtain ⟨i, kvs⟩ := pp
      rw [q] at h3
      cases q2 : keyOf w2 with
      | none => rw [q2] at h3; exact h3.elim
      | some kk =>
        rw [q2] at h3
        dsimp only at h3
        by_cases hz : kvs.length < sizeLine
        · rw [if_pos hz] at h3
          obtain ⟨p', vs, ep, e1, e2, e3, e4⟩ := dctOf_rel R3 ((r1.mono l2).mono l3) q
          cases ep
          rw [keyOf_rel q2 (r2.mono l3)]
          refine ⟨_, kk, e3, rfl, by rw [dK_len e4]; exact hz, ?_⟩
          rcases look_rel (k := kk) e4 with ⟨z1, z2⟩ | ⟨w, v, z1, z2, z3⟩
          · rw [z1] at h3
            refine ⟨fun v hv => (by rw [z2] at hv; exact absurd hv (by intro z; cases z)), fun _ => ?_⟩
            obtain ⟨l5, R5⟩ := put_run (kk := kk) R3 e1 e3 e4 r3
            exact h3 _ _ _ l5 R5 (r3.mono l5)
          · rw [z1] at h3
            refine ⟨fun v' hv => ?_, fun hv => (by rw [z2] at hv; exact absurd hv (by intro z; cases z))⟩
            rw [z2] at hv
            cases hv
            exact run_ok R3 z3 h3
        · rw [if_neg hz] at h3; exact h3.elim
/-- d[k] = v -/
theorem s_dput {pos' : Pos} (hd : SE m T k c t sc N ow d fd) (hb : SE m T k c t sc N ow b fb) (he : SE m T k c t sc N ow e fe) (hs : ∀ env l, swapsWith e (some (.Subscript d b pos')) l env = pure false := by intro _ _; rfl) :
    SS m T k c t sc N ow (.Assign [.Subscript d b pos'] e pos) (fun s => exS s (fe s) fun v => exS s (fd s) fun x => exS s (fb s) fun y => asgM (bd (dputM x y v) fun _ => ret s)) := fun X g Wx tk => by
  have hu : X.A.units + 1 < cLine := by have := g.un; omega
  have hd := hd X g Wx tk
  have hb := hb X g Wx tk
  have he := he X g Wx tk
  obtain ⟨rfl, _⟩ := g
  refine (ps_dput hu hd hb he (hs _ _)).imp fun D σ H h => ?_
  obtain ⟨ad, S, sl, R, L, h⟩ := h
  refine ⟨ad, S, sl, R, L, run_imp (run_exS L h) ?_⟩
  rintro v H1 ⟨ad1, S1, w1, l1, R1, r1, h1⟩
  have L1 := L.mono l1
  refine ⟨ad1, S1, sl, R1, L1, run_imp (run_exS L1 h1) ?_⟩
  rintro x H2 ⟨ad2, S2, w2, l2, R2, r2, h2⟩
  have L2 := L1.mono l2
  refine ⟨ad2, S2, sl, R2, L2, run_imp (run_exS L2 h2) ?_⟩
  rintro y H3 ⟨ad3, S3, w3, l3, R3, r3, h3⟩
  have h3 := runS_asg h3
  unfold bd dputM at h3
  cases q : dctOf S3 w2 with
  | none => rw [q] at h3; exact h3.elim
  | some pp =>
    obtain ⟨i, kvs⟩ := pp
    rw [q] at h3
    cases q2 : keyOf w3 with
    | none => rw [q2] at h3; exact h3.elim
    | some kk =>
      rw [q2] at h3
      dsimp only at h3
      by_cases hz : kvs.length < sizeLine
      · rw [if_pos hz] at h3
        obtain ⟨p', vs, rfl, e1, e2, e3, e4⟩ := dctOf_rel R3 (r2.mono l3) q
        rw [keyOf_rel q2 r3]
        obtain ⟨l5, R5⟩ := put_run (kk := kk) R3 e1 e3 e4 ((r1.mono l2).mono l3)
        exact ⟨p', _, rfl, DPut.k e3 (by rw [dK_len e4]; exact hz), h3 _ _ _ l5 R5 ((L2.mono l3).mono l5)⟩
      · rw [if_neg hz] at h3; exact h3.elim
/-- len(d) -/
theorem n_lenD : SN m T k c t sc N ow (.builtin "len") lenDM := fun X g E pins s σ H xs us Q I r ⟨ad, S, ws, R, rw', h⟩ => by
  obtain ⟨rfl, _⟩ := g
  unfold lenDM at h
  split at h
  · rename_i d
    cases q : dctOf S d with
    | none => rw [q] at h; exact h.elim
    | some pp =>
      obtain ⟨i, kvs⟩ := pp
      rw [q] at h
      dsimp only at h
      cases rw' with
      | cons r1 rt =>
        cases rt
        obtain ⟨p', vs, rfl, e1, e2, e3, e4⟩ := dctOf_rel R r1 q
        refine call_lenD pins s σ H _ us Q I r ⟨p', _, rfl, e3, ?_⟩
        rw [dK_len e4]
        exact run_ok R (.int _) h
  · exact h.elim
end
end RP

/-! RpAJ: list.pop(), max of a tuple of ints, sum of a list of ints. -/
namespace RP
open PySem L2 PySem.Spec PyProof.Rows
open PySem.W (alike dataLt AlikeAll iter_tupleW moved_old cmpIn_gt dataLt_int)
section
variable {m : Mo} {T : Tab} {k : Nat} {c t : Bool} {sc : Scope} {N : List Str} {ow : Ow}
theorem RelWs.dropLast {K : PySem.W.Frag} {ad : List Addr} {H : Hp} : ∀ {ws : List W} {vs : List V}, RelWs K ad H ws vs → RelWs K ad H ws.dropLast vs.dropLast
  | _, _, .nil => .nil
  | _, _, .cons _ .nil => .nil
  | _, _, .cons r (.cons r2 rr) => .cons r (RelWs.dropLast (.cons r2 rr))
def popM (w : W) (ws : List W) : M W := fun S => match w, ws with
  | .ref i, [] => match S[i]? with
    | some (.lst xs) => match xs[xs.length - 1]? with
      | some y => .ok y (S.set i (.lst xs.dropLast))
      | none => .bad
    | _ => .bad
  | _, _ => .bad
theorem m_pop : SM m T k c t sc N ow "list.pop" popM := fun X g E pins s σ H x xs v us Q I rx rs ⟨ad, S, w, ws, R, rw', rws, h⟩ => by
  obtain ⟨rfl, _⟩ := g
  unfold popM at h
  split at h
  · cases rw' with
    | ref e1 =>
    match xs, rws with
    | [], .nil =>
      split at h
      · rename_i ys h1
        split at h
        · rename_i y hy
          obtain ⟨vs, q, r1⟩ := R.lst e1 h1
          obtain ⟨u, hu, ru⟩ := r1.get hy
          exact mt_pop pins s σ H _ _ v us Q I rx rs ⟨_, vs, u, rfl, rfl, q, by rw [← r1.length]; exact hu, run_wlst R e1 q r1.dropLast ru h⟩
        · exact h.elim
      · exact h.elim
  · exact h.elim
end
theorem max_at {prog : Program} {w : World} {A : Around} {E : Value → Shared → Prop} {s : Shared} {l : Addr} {vs : Array Value} {ds : List PyData} {as : List Addr} {Q : Value → Shared → Prop} (hh : A.handled = none) (hl : s.heap.IsTuple l vs) (hr : ReadsAll s.heap vs.toList ds as) (ha : AlikeAll ds) (hn : 0 < ds.length) (hu : A.units + 1 + PyData.depthAll ds < cLine)
    (h : ∀ v h' tk, vs[argBest (fun i j => dataLt (ds.getD j .none) (ds.getD i .none)) (ds.length - 1)]? = some v → (∀ b o, s.heap.get? b = some o → h'.get? b = some o) → Q v { s with heap := h', toks := tk }) :
    wpAny (model prog w) A (call (.builtin "max") [.ref l]) Q E s := by
  have hn' : vs.size = ds.length := PySem.W.readsAll_len hr
  refine call_max_walkH (iter_tupleW (A := A.in1) hh hl fun s₂ e W st hfp hw hk => ?_)
  refine ⟨_, _, _, _, _, _, _, s.heap, _, rfl, W, st, hfp, by omega, hw, hk, cmpIn_gt (A := A.in1) hr ha (by show A.units + 1 + _ < _; exact hu), fun v s' hP m => ?_⟩
  obtain ⟨h', tk, rfl, hk'⟩ := moved_old e rfl m
  rw [hn'] at hP
  exact h v h' tk hP hk'
def maxIx (is : List Int) : Nat := argBest (fun i j => decide (is.getD j 0 < is.getD i 0)) (is.length - 1)
def maxI (is : List Int) : Int := is.getD (maxIx is) 0
theorem argBest_le' (bt : Nat → Nat → Bool) : ∀ n, argBest bt n ≤ n
  | 0 => Nat.le_refl _
  | n + 1 => by
    have := argBest_le' bt n
    unfold argBest
    split <;> omega
theorem argBest_congr {bt bt' : Nat → Nat → Bool} : ∀ n, (∀ i j, i ≤ n → j ≤ n → bt i j = bt' i j) → argBest bt n = argBest bt' n
  | 0, _ => rfl
  | n + 1, h => by
    have := argBest_le' bt' n
    have ih := argBest_congr n fun i j hi hj => h i j (by omega) (by omega)
    unfold argBest
    rw [ih, h _ _ (Nat.le_refl _) (by omega)]
section
variable {m : Mo} {T : Tab} {k : Nat} {c t : Bool} {sc : Scope} {N : List Str} {ow : Ow}
def maxM (ws : List W) : M W := fun S => match ws with
  | [.tup xs] => match intsOf xs with
    | some is => if is.isEmpty then .bad else .ok (.int (maxI is)) S
    | none => .bad
  | _ => .bad
theorem depth_ints' : ∀ xs : List Int, PyData.depthAll (xs.map .int) = 0
  | [] => rfl
  | x :: xs => by
    rw [List.map_cons]
    show max (PyData.depth (.int x)) (PyData.depthAll (xs.map .int)) = 0
    rw [depth_ints' xs]
    rfl
theorem alikeB_ints (is : List Int) : alikeB (is.map PyData.int) = true := by
  unfold alikeB
  simp only [List.all_map, List.all_eq_true, Function.comp]
  intro i hi
  simp only [Bool.true_and, List.all_eq_true]
  intro j hj
  rfl
theorem intsOf_is : ∀ {ws : List W} {is : List Int}, intsOf ws = some is → ws = is.map W.int
  | [], _, h => by cases h; rfl
  | w :: ws, is, h => by
    cases w <;> simp only [intsOf] at h <;> try cases h
    cases q : intsOf ws with
    | none => rw [q] at h; cases h
    | some js =>
      rw [q] at h
      cases h
      rw [intsOf_is q]
      rfl
theorem n_max (hc : c = true) : SN m T k c t sc N ow (.builtin "max") maxM := fun X g E pins s σ H xs us Q I r ⟨ad, S, ws, R, rw', h⟩ => by
  have calm := g.calm hc
  have hu : X.A.units + 65 < cLine := by have := (g.room hc).un; omega
  obtain ⟨rfl, _⟩ := g
  unfold maxM at h
  split at h
  · rename_i ys
    match xs, rw' with
    | [_], .cons (.tup sq r2) .nil =>
      split at h
      · rename_i is hi
        have ey := intsOf_is hi
        subst ey
        split at h
        · exact h.elim
        · rename_i hne
          have hne' : is ≠ [] := by simpa using hne
          have hl : 0 < is.length := List.length_pos_iff.mpr hne'
          obtain ⟨its, rv, pl, _⟩ := I.tuple sq
          obtain ⟨as, rd⟩ := Dp.readsAll I _ _ its (dat_all (dat_dp R 9) (mapM_ints 9 S is) r2) rv
          rw [Vals.ref1 r]
          refine max_at (I.ok.hd calm) pl (by simpa using rd) (alikeB_all (alikeB_ints is)) (by simpa using hl) (by rw [depth_ints']; omega) fun v h' tk hv hk => ?_
          have ex : argBest (fun i j => dataLt ((is.map PyData.int).getD j .none) ((is.map PyData.int).getD i .none)) ((is.map PyData.int).length - 1) = maxIx is := by
            rw [List.length_map]
            refine argBest_congr _ fun i j hi hj => ?_
            rw [List.getD_eq_getElem?_getD, List.getD_eq_getElem?_getD, List.getElem?_map, List.getElem?_map, List.getElem?_eq_getElem (by omega), List.getElem?_eq_getElem (by omega), List.getD_eq_getElem?_getD, List.getD_eq_getElem?_getD, List.getElem?_eq_getElem (by omega), List.getElem?_eq_getElem (by omega)]
            exact dataLt_int _ _
          rw [ex] at hv
          have hx : maxIx is < is.length := by
            have := argBest_le' (fun i j => decide (is.getD j 0 < is.getD i 0)) (is.length - 1)
            show argBest _ _ < _
            omega
          have hw : (is.map W.int)[maxIx is]? = some (.int (maxI is)) := by
            rw [List.getElem?_map]
            unfold maxI
            rw [List.getD_eq_getElem?_getD, List.getElem?_eq_getElem hx]
            rfl
          obtain ⟨v1, e1, r1⟩ := r2.get hw
          obtain ⟨u1, e2, r3⟩ := rv.get e1
          have : v = u1 := by
            have e3 : its[maxIx is]? = some v := by simpa using hv
            rw [e2] at e3
            exact (Option.some.inj e3).symm
          subst this
          exact ⟨v1, H, I.kept hk, r3, run_ok R r1 h⟩
      · exact h.elim
  · exact h.elim
def sumM (ws : List W) : M W := fun S => match ws with
  | [.ref i] => match S[i]? with
    | some (.lst xs) => match intsOf xs with
      | some is => .ok (.int is.sum) S
      | none => .bad
    | _ => .bad
  | _ => .bad
theorem n_sum (hc : c = true) : SN m T k c t sc N ow (.builtin "sum") sumM := fun X g E pins s σ H xs us Q I r ⟨ad, S, ws, R, rw', h⟩ => by
  have calm := g.calm hc
  obtain ⟨rfl, _⟩ := g
  unfold sumM at h
  split at h
  · match xs, rw' with
    | [_], .cons (.ref e1) .nil =>
      split at h
      · rename_i ys hs
        split at h
        · rename_i is hi
          obtain ⟨vs, q, r2⟩ := R.lst e1 hs
          rw [intsOf_rel hi r2] at q
          exact cr_sum calm pins s σ H _ us Q I r ⟨_, is, rfl, SqL.of q, run_ok R (.int _) h⟩
        · exact h.elim
      · exact h.elim
  · exact h.elim
end
end RP

/-! RpAK: sorted(xs) of a list of data: what the kit sorts, and tuples of which the first is empty. -/
namespace GT
open PySem PySem.Calls PyProof.Rows PySem.SeqAt PySem.W
section
variable {A : Around} {s : Shared}
theorem call_tuple_lt {prog : Program} {w : World} {E : Value → Shared → Prop} {Q : Value → Shared → Prop} {l b : Addr} {items items2 : Array Value} {e r : Nat → Bool} (hl : s.heap.IsTuple l items) (hb : s.heap.IsTuple b items2)
    (he : ∀ j (h1 : j < items.size) (h2 : j < items2.size), EqAt A.in1 s items[j] items2[j] (e j)) (hr : ∀ j (h1 : j < items.size) (h2 : j < items2.size), e j = false → RcLt A.in1 s items[j] items2[j] (r j))
    (h : Q (.bool (firstLt e r (decide (items.size < items2.size)) (List.range (min items.size items2.size)))) s) : wpAny (model prog w) A (call (.builtin "tuple.__lt__") [.ref l, .ref b]) Q E s := by
  obtain ⟨⟨cls, dd, data, sl⟩, ho, hc, n, hd⟩ := id hl
  obtain ⟨⟨cls2, dd2, data2, sl2⟩, ho2, hc2, n2, hd2⟩ := id hb
  simp only at hc hd hc2 hd2
  subst hc hd hc2 hd2
  exact call_meets F.slot_tuple_lt ⟨_, ho, rfl⟩ F.entry_tuple_lt (F.args_tuple_lt_2 _ _) (PySem.SeqAt.tuple_ltAt l b items items2 n n2 dd dd2 sl sl2 e r) ⟨ho, ho2, he, hr, h⟩
theorem oneLt_tuple {prog : Program} {w : World} {E : Value → Shared → Prop} {xs ys : List PyData} {a b : Value} {as bs : List Addr} {Q : Bool → Shared → Prop} (ra : Reads s.heap a (.tuple xs) as) (rb : Reads s.heap b (.tuple ys) bs) (h : alike (.tuple xs) (.tuple ys) = true)
    (hu : A.units + min (PyData.tuple xs).depth (PyData.tuple ys).depth < cLine) (hq : Q (dataLt (.tuple xs) (.tuple ys)) s) : wpAny (model prog w) A (oneLt' true a b) Q E s := by
  have hal : alikeAll xs ys = true := by simpa [alike] using h
  cases ra with
  | @tuple l o vs n _ as₁ h1 h2 h3 h4 =>
    cases rb with
    | @tuple l' o' vs' n' _ bs₁ k1 k2 k3 k4 =>
      have n1 : vs.size = xs.length := by simpa using ReadsAll.length _ _ _ h4
      have n2 : vs'.size = ys.length := by simpa using ReadsAll.length _ _ _ k4
      rw [dataLt_tuple, ← firstLt_toks xs ys hal, ← n1, ← n2] at hq
      rw [oneLt'_eq]
      simp only [if_true]
      refine wpAny_bind (wpAny_cRoomFor (room_here hu) ?_)
      refine wpAny_bind (wpAny_callSpecialIfBound?_slot (T := "tuple") ⟨_, h1, h2⟩ F.slot_tuple_lt (call_tuple_lt (e := pairEq xs ys) (r := fun j => dataLt (xs.getD j .none) (ys.getD j .none)) ⟨_, h1, h2, _, h3⟩ ⟨_, k1, k2, _, k3⟩ (fun j j1 j2 => ?_) (fun j j1 j2 hj => ?_) ?_))
      · have := eqAt_alikeAll xs ys A.in1 s vs.toList vs'.toList _ _ h4 k4 hal (room_in hu) j (by simpa using j1) (by simpa using j2)
        simpa using this
      · have := rcLt_alikeAll xs ys A.in1 s vs.toList vs'.toList _ _ h4 k4 hal (room_in hu) j (by simpa using j1) (by simpa using j2) hj
        simpa using this
      · exact wpAny_truthy_bool hq
end
section
variable {prog : Program} {w : World} {A : Around} {E : Value → Shared → Prop} {s : Shared}
theorem first_tup {v : Value} {a : Addr} {its : Array Value} {Q : Option Value → Shared → Prop} (hv : v = .ref a) (ht : s.heap.IsTuple a its) (h : Q its[0]? s) : wpAny (model prog w) A (firstOfTuple' v) Q E s := by
  subst hv
  obtain ⟨o, ho, hc, n, hd⟩ := ht
  have lk : Looks (model prog w) s.heap (typeOf (Value.ref a)) (Value.type "tuple") := hc ▸ (Looks.ld ho).andThen .now
  rw [kas_first_eq]
  refine wpAny_bind (lk.here ?_)
  rw [if_neg (by decide)]
  refine wpAny_bind (wpAny_listItems ho hd ?_)
  exact wpAny_pure h
theorem mapM_firsts : ∀ (l : List Value), (∀ v ∈ l, ∃ a its, v = .ref a ∧ s.heap.IsTuple a its) → ∀ {Q : List (Option Value) → Shared → Prop}, (∀ fs, Q fs s) → wpAny (model prog w) A (l.mapM firstOfTuple') Q E s
  | [], _, _, h => by rw [List.mapM_nil]; exact wpAny_pure (h [])
  | v :: l, hv, Q, h => by
    obtain ⟨a, its, e, ht⟩ := hv v (by simp)
    rw [List.mapM_cons]
    exact wpAny_bind (first_tup e ht (wpAny_bind (mapM_firsts l (fun u hu => hv u (by simp [hu])) fun fs => wpAny_pure (h _))))
theorem kind_tups {vs : List Value} {a₀ : Addr} {Q : SortKind → Shared → Prop} (hT : ∀ v ∈ Value.ref a₀ :: vs, ∃ a its, v = .ref a ∧ s.heap.IsTuple a its) (h0 : s.heap.IsTuple a₀ #[]) (h2 : 2 ≤ (Value.ref a₀ :: vs).length) (h : Q oneType' s) : wpAny (model prog w) A (keyKind' (Value.ref a₀ :: vs).toArray) Q E s := by
  have lk : ∀ v ∈ Value.ref a₀ :: vs, Looks (model prog w) s.heap (typeOf v) (Value.type "tuple") := fun v hv => by
    obtain ⟨a, its, rfl, o, ho, hc, _⟩ := hT v hv
    exact hc ▸ (Looks.ld ho).andThen .now
  obtain ⟨v₂, rest, rfl⟩ : ∃ v₂ rest, vs = v₂ :: rest := by
    cases vs with
    | nil => simp at h2
    | cons a b => exact ⟨a, b, rfl⟩
  rw [keyKind'_eq, List.mapM_toArray, map_eq_pure_bind]
  refine wpAny_bind (wpAny_bind ?_)
  rw [List.mapM_cons]
  refine wpAny_bind (first_tup rfl h0 (wpAny_bind (mapM_firsts _ (fun u hu => hT u (by simp only [List.mem_cons] at hu ⊢; exact .inr hu)) fun fs => wpAny_pure (wpAny_pure ?_))))
  rw [if_neg (by simp), if_neg (by simp)]
  rw [oneTypeOnly'_eq, List.mapM_toArray, map_eq_pure_bind]
  refine wpAny_bind (wpAny_bind (wpAny_bind (kas_mapM (r := Value.type "tuple") _ (fun v hv Q' hq => (lk v hv).here hq) (wpAny_pure ?_))))
  have hall : ((List.map (fun _ => Value.type "tuple") (Value.ref a₀ :: v₂ :: rest)).toArray.all fun x => x == Value.type "tuple") = true := by
    simp only [List.all_toArray, List.all_map, List.all_eq_true]
    intro _ _
    exact beq_self_eq_true _
  have e0 : (List.map (fun _ => Value.type "tuple") (Value.ref a₀ :: v₂ :: rest)).toArray[0]? = some (Value.type "tuple") := by simp
  rw [e0]
  simp only [hall, if_true]
  exact wpAny_pure (wpAny_pure h)
/-- values that read as alike tuples, the first of them empty, can be sorted -/
theorem sortsAt_tups {vs : List Value} {ds : List PyData} (e : EachIs (fun v d => ∃ as, Reads s.heap v d as) vs (.tuple [] :: ds)) (hal : AllAlike (.tuple [] :: ds)) (ht : ∀ d, d ∈ (.tuple [] :: ds : List PyData) → ∃ xs, d = .tuple xs) (hu : ∀ d, d ∈ (.tuple [] :: ds : List PyData) → A.units + d.depth < cLine) :
    SortsAt prog w A s (dataKind s.heap (.tuple [] :: ds)) vs := by
  have room : ∀ {d d' : PyData}, d ∈ (.tuple [] :: ds : List PyData) → A.units + min d.depth d'.depth < cLine := fun {d d'} hd => Nat.lt_of_le_of_lt (Nat.add_le_add_left (Nat.min_le_left _ _) _) (hu d hd)
  refine ⟨fun v hv => ?_, oneType', ?_, fun h2 E Q hq => ?_⟩
  · obtain ⟨d, hd, as, r⟩ := e.left v hv
    exact ⟨_, dataKind_some hal hd r⟩
  · intro E x y a b Q ha hb hq
    obtain ⟨d, as, hd, ra, rfl⟩ := dataKind_inv ha
    obtain ⟨d', as', hd', rb, rfl⟩ := dataKind_inv hb
    rw [keyLt'_oneType]
    obtain ⟨xs, rfl⟩ := ht d hd
    obtain ⟨ys, rfl⟩ := ht d' hd'
    exact oneLt_tuple ra rb (hal _ hd _ hd') (room hd) hq
  · have tup : ∀ {v : Value} {d : PyData}, d ∈ (.tuple [] :: ds : List PyData) → (∃ as, Reads s.heap v d as) → ∃ a its, v = .ref a ∧ s.heap.IsTuple a its := fun {v d} hd hr => by
      obtain ⟨xs, rfl⟩ := ht d hd
      obtain ⟨as, r⟩ := hr
      cases r with
      | tuple h1 h2 h3 h4 => exact ⟨_, _, rfl, _, h1, h2, _, h3⟩
    cases e with
    | @cons v _ vs _ r0 rest =>
      obtain ⟨as, r⟩ := r0
      cases r with
      | @tuple a o its n _ _ h1 h2' h3 h4 =>
        have e0 : its = #[] := by
          have : its.toList = [] := by
            cases h5 : its.toList with
            | nil => rfl
            | cons x xs => rw [h5] at h4; cases h4
          cases its
          simp only at this
          rw [this]
        subst e0
        refine kind_tups (fun v hv => ?_) ⟨_, h1, h2', _, h3⟩ h2 hq
        rcases List.mem_cons.mp hv with rfl | hv
        · exact ⟨_, _, rfl, _, h1, h2', _, h3⟩
        · obtain ⟨d, hd, hr⟩ := rest.left v hv
          exact tup (by simp [hd]) hr
/-- sorted(xs) of such -/
theorem sorted_tups0 {β : Type} {vs : List Value} {bs : List β} {enc : β → PyData} {R : Value → β → Prop} {l : Addr} {Q : Value → Shared → Prop} (hl : s.heap.IsList l vs.toArray) (e : EachIs R vs bs) (er : EachIs (fun v b => ∃ as, Reads s.heap v (enc b) as) vs bs) (hal : AllAlike (bs.map enc)) (h0 : (bs.map enc).head? = some (.tuple [])) (ht : ∀ b ∈ bs, ∃ xs, enc b = .tuple xs) (hL : bs.length ≤ sizeLine)
    (hu : ∀ b, b ∈ bs → A.units + 2 + (enc b).depth < cLine) (h : ∀ out, out.length = bs.length → EachIs R out (bs.mergeSort (dataLe false enc)) → Q (.ref (s.heap.objs.size + 1)) { s with heap := sortedAll s.heap vs (List.toArray out) }) :
    wpAny (model prog w) A (call (.builtin "sorted") [.ref l]) Q E s := by
  have er' : EachIs (fun v b => ∃ as, Reads (sortingHeap (copyHeap s.heap vs) (s.heap.objs.size + 1) vs) v (enc b) as) vs bs := er.mono fun _ _ ⟨as, r⟩ => ⟨as, PyProof.Rows.Reads.keeps (fun _ _ => sorting_copy_old) r⟩
  have em := each_map (R := fun v d => ∃ as, Reads (sortingHeap (copyHeap s.heap vs) (s.heap.objs.size + 1) vs) v d as) enc er'
  have ht' : ∀ d ∈ bs.map enc, ∃ xs, d = .tuple xs := fun d hd => by
    obtain ⟨b, hb, rfl⟩ := List.mem_map.mp hd
    exact ht b hb
  have hu' := bound_map (A := A.in1.in1) (bs := bs) (enc := enc) hu
  have sa : SortsAt prog w A.in1.in1 { s with heap := sortingHeap (copyHeap s.heap vs) (s.heap.objs.size + 1) vs } (dataKind (sortingHeap (copyHeap s.heap vs) (s.heap.objs.size + 1) vs) (bs.map enc)) vs := by
    cases q : bs.map enc with
    | nil => rw [q] at h0; cases h0
    | cons d ds =>
      rw [q] at h0 em ht' hu' hal
      cases h0
      exact sortsAt_tups em hal ht' hu'
  exact sorted_vals hl sa (by rw [e.length]; exact hL) (h _ (by rw [sortVals_length false rfl]; exact e.length) (sortVals_data false e er' hal))
end
end GT
namespace RP
open PySem L2 PySem.Spec PyProof.Rows
open PySem.W (alike dataLt AllAlike Sortable dataLe sorted_data EachIs)
/-- what is sorted: data of one make, tuples with the empty one first -/
def sortOk (ds : List PyData) : Bool := alikeB ds && decide (PyData.depthAll ds ≤ 60) && (match ds with
  | .tuple [] :: _ => ds.all fun d => match d with | .tuple _ => true | _ => false
  | _ => (ds.all fun d => match d with | .tuple (_ :: _) => true | _ => false) || ds.all fun d => match d with | .tuple _ => false | .none => false | _ => true)
def sortW (xs : List W) (ds : List PyData) : List W := ((xs.zip ds).mergeSort (dataLe false Prod.snd)).map Prod.fst
section
variable {m : Mo} {T : Tab} {k : Nat} {c t : Bool} {sc : Scope} {N : List Str} {ow : Ow}
def sortedM (ws : List W) : M W := fun S => match ws with
  | [.ref i] => match S[i]? with
    | some (.lst xs) => match xs.mapM (dat 9 S) with
      | some ds => if sortOk ds then .ok (.ref S.length) (S ++ [.lst (sortW xs ds)]) else .bad
      | none => .bad
    | _ => .bad
  | _ => .bad
theorem allAlike_of {ds : List PyData} (h : alikeB ds = true) : AllAlike ds := fun d hd d' hd' => (alikeB_all h).1 d hd d' hd'
theorem depthAll_mem : ∀ {ds : List PyData} {d : PyData}, d ∈ ds → d.depth ≤ PyData.depthAll ds
  | x :: ds, d, h => by
    rw [show PyData.depthAll (x :: ds) = max x.depth (PyData.depthAll ds) from rfl]
    rcases List.mem_cons.mp h with rfl | h
    · omega
    · have := depthAll_mem h
      omega
theorem each_rel {K : PySem.W.Frag} {ad : List Addr} {H : Hp} : ∀ {xs : List W} {vs : List V} {its : List Value} {ds : List PyData}, RelWs K ad H xs vs → Vals vs its → xs.length = ds.length → EachIs (fun v (b : W × PyData) => ∃ u, RelV u v ∧ RelW K ad H b.1 u) its (xs.zip ds)
  | [], _, _, [], .nil, .nil, _ => .nil
  | x :: xs, _, _, d :: ds, .cons r rr, .cons q qq, h => .cons ⟨_, q, r⟩ (each_rel rr qq (by simpa using h))
theorem each_back {K : PySem.W.Frag} {ad : List Addr} {H : Hp} : ∀ {out : List Value} {bs : List (W × PyData)}, EachIs (fun v (b : W × PyData) => ∃ u, RelV u v ∧ RelW K ad H b.1 u) out bs → ∃ vs, Vals vs out ∧ RelWs K ad H (bs.map Prod.fst) vs
  | _, _, .nil => ⟨[], .nil, .nil⟩
  | _, _, .cons ⟨u, q, r⟩ t => by
    obtain ⟨vs, h1, h2⟩ := each_back t
    exact ⟨u :: vs, .cons q h1, .cons r h2⟩
theorem mapM_len {α β : Type} {f : α → Option β} : ∀ {xs : List α} {ys : List β}, xs.mapM f = some ys → xs.length = ys.length
  | [], ys, h => by simp at h; subst h; rfl
  | x :: xs, ys, h => by
    rw [List.mapM_cons] at h
    cases q : f x with
    | none => rw [q] at h; cases h
    | some d =>
      cases q2 : xs.mapM f with
      | none => rw [q, q2] at h; cases h
      | some ds =>
        rw [q, q2] at h
        cases h
        simp [mapM_len q2]
theorem n_sorted (hc : c = true) : SN m T k c t sc N ow (.builtin "sorted") sortedM := fun X g E pins s σ H xs us Q I r ⟨ad, S, ws, R, rw', h⟩ => by
  have hu : X.A.units + 65 < cLine := by have := (g.room hc).un; omega
  obtain ⟨rfl, _⟩ := g
  unfold sortedM at h
  split at h
  · match xs, rw' with
    | [_], .cons (.ref e1) .nil =>
      split at h
      · rename_i ys hs
        split at h
        · rename_i ds hd
          split at h
          · rename_i hz
            simp only [sortOk, Bool.and_eq_true, decide_eq_true_eq] at hz
            obtain ⟨⟨hal, hdp⟩, hk⟩ := hz
            obtain ⟨vs, q, r2⟩ := R.lst e1 hs
            obtain ⟨its, rv, pl, hsz⟩ := I.list (SqL.of q)
            obtain ⟨as, rd⟩ := Dp.readsAll I ds vs its (dat_all (dat_dp R 9) hd r2) rv
            have hlen := mapM_len hd
            have hms : (ys.zip ds).map Prod.snd = ds := List.map_snd_zip (by omega)
            have hal' : AllAlike ((ys.zip ds).map Prod.snd) := by rw [hms]; exact allAlike_of hal
            have er := PySem.W.readsAll_each (bs := ys.zip ds) Prod.snd (by rw [hms]; exact rd)
            have hL : (ys.zip ds).length ≤ sizeLine := by
              rw [List.length_zip, r2.length]
              omega
            have hu' : ∀ b, b ∈ ys.zip ds → X.A.units + 2 + (b.2).depth < cLine := fun b hb => by
              have := depthAll_mem (List.of_mem_zip hb).2
              omega
            have fin : ∀ out : List Value, out.length = (ys.zip ds).length → EachIs (fun v (b : W × PyData) => ∃ u, RelV u v ∧ RelW X.K ad H b.1 u) out ((ys.zip ds).mergeSort (dataLe false Prod.snd)) →
                ∃ x H', Inv X pins σ H' { s with heap := PyProof.Rows.sortedAll s.heap its (List.toArray out) } ∧ RelV x (.ref (s.heap.objs.size + 1)) ∧ Q x H' := fun out hol he => by
              obtain ⟨vs', rv', rr'⟩ := each_back he
              obtain ⟨ep, he'⟩ := PyProof.Rows.sortedAll_at s.heap its (List.toArray out)
              have hl' : vs'.length ≤ sizeLine := by
                rw [rv'.length, hol]
                exact hL
              exact ⟨.ref _, upd H (s.heap.objs.size + 1) (.lst vs'), I.laid (t' := s.toks) (fun _ _ => PyProof.Rows.sortedAll_old) (Nat.le_succ _) ⟨hl', out, ep, rv', he'⟩, rfl, run_newlst R (I.hok.fresh (Nat.le_succ _)) rr' h⟩
            rw [Vals.ref1 r]
            split at hk
            · rename_i rest
              rw [List.all_eq_true] at hk
              refine GT.sorted_tups0 (enc := Prod.snd) pl.isList (each_rel r2 rv hlen) er hal' (by rw [hms]; rfl) (fun b hb => ?_) hL hu' fin
              have := hk b.2 (List.of_mem_zip hb).2
              split at this
              · exact ⟨_, ‹_›⟩
              · cases this
            · refine sorted_data (enc := Prod.snd) pl.isList (each_rel r2 rv hlen) er hal' ?_ hL hu' fin
              rw [hms]
              rw [Bool.or_eq_true] at hk
              rcases hk with hk | hk
              · rw [List.all_eq_true] at hk
                refine .inl fun d hd => ?_
                have := hk d hd
                split at this
                · exact ⟨_, _, rfl⟩
                · cases this
              · rw [List.all_eq_true] at hk
                refine .inr fun d hd => ?_
                have := hk d hd
                refine ⟨fun e => ?_, fun xs e => ?_⟩ <;> (rw [e] at this; cases this)
          · exact h.elim
        · exact h.elim
      · exact h.elim
  · exact h.elim
end
end RP

/-! RpAL: {k: v for ..}, list.count of data, dict(pairs), dict != dict, list(d). -/
namespace RP
open PySem L2 PySem.Spec PyProof.Rows
section
variable {T : Tab} {K : PySem.W.Frag} {ad : List Addr} {H : Hp} {S : Sto}
/-- a dict that stood beside the state becomes one of its objects -/
theorem Rel.takeD (R : Rel T K ad H S) {D : Addr} (hD : D ∉ ad) {kvs : List (Key × W)} {vs : List V} (e : H D = some (.dK ((kvs.map (·.1)).zip vs))) (r : RelWs K ad H (kvs.map (·.2)) vs) : Rel T K (ad ++ [D]) H (S ++ [.dct kvs]) := by
  have nc : ∀ c q, c ∉ ad → H c = some (LamX.CodeO c q) → H c = some (LamX.CodeO c q) ∧ c ∉ ad ++ [D] := fun c q n e' => ⟨e', fun z => by
    rcases List.mem_append.mp z with z | z
    · exact n z
    · have z : c = D := by simpa using z
      subst z
      rw [e] at e'; cases e'⟩
  have u : Up K ad H (ad ++ [D]) H := ⟨⟨_, rfl⟩, fun _ _ h => h, nc⟩
  refine ⟨by simp [R.len], ?_, fun i a ob e' q => ?_, fun t ht => (R.tabs t ht).go (fun _ e => e) fun c n e => nc c _ n e, R.xds⟩
  · rw [List.nodup_append]
    exact ⟨R.nd, by simp, fun x hx y hy => by
      have : y = D := by simpa using hy
      subst this
      intro e
      subst e
      exact hD hx⟩
  · by_cases hi : i < ad.length
    · rw [List.getElem?_append_left hi] at e'
      rw [List.getElem?_append_left (R.len ▸ hi)] at q
      exact (R.ob i a ob e' q).but (c := D) u But.refl (fun z => hD (z ▸ List.mem_of_getElem? e')) (fun dx h2 z => by
        subst z
        rw [e] at h2; cases h2) fun dx x h2 z => by
        subst z
        rw [e] at h2; cases h2
    · rw [List.getElem?_append_right (by omega)] at e'
      rw [List.getElem?_append_right (by rw [← R.len]; omega)] at q
      rw [← R.len] at q
      cases hz : i - ad.length with
      | zero =>
        rw [hz] at e' q
        simp at e' q
        subst e' q
        exact ⟨vs, e, r.up u⟩
      | succ n => rw [hz] at e'; simp at e'
theorem Le.offD {H0 : Hp} {ad0 : List Addr} {D : Addr} {vs us : List (Key × V)} (l : Le K ad0 H0 ad H) (hD : H0 D = none) (e : H D = some (.dK vs)) : Le K ad0 H0 ad (upd H D (.dK us)) := by
  refine ⟨l.pre, fun a xs h => ?_, l.new, fun b o h k n => ?_, fun b h => ?_, fun b x h => ?_⟩
  · have q := l.fwd a xs h
    rcases q with (q | ⟨o, q⟩) | q
    · have n : a ≠ D := fun z => by rw [z, e] at q; cases q
      exact .inl (.inl (by rw [upd_ne n]; exact q))
    · have n : a ≠ D := fun z => by rw [z, e] at q; cases q
      exact .inl (.inr ⟨o, by rw [upd_ne n]; exact q⟩)
    · exact .inr q
  · have n' : b ≠ D := fun z => by rw [z, hD] at h; cases h
    rw [upd_ne n']
    exact l.frm b o h k n
  · have n' : b ≠ D := fun z => by rw [z, hD] at h; cases h
    rw [upd_ne n']
    exact l.xd b h
  · have n' : b ≠ D := fun z => by rw [z, hD] at h; cases h
    rw [upd_ne n']
    exact l.own b x h
end
def dcM (v : View) (g : W → Slots → M Slots) (test : Slots → M Bool) (key elt : Slots → M W) (sl0 : Slots) : Nat → Nat → List (Key × W) → M (List (Key × W))
  | 0, _, _ => stuck
  | f + 1, n, acc => fun S => match v S with
    | none => .bad
    | some ws => match ws[n]? with
      | none => .ok acc S
      | some w => match g w sl0 S with
        | .ok sl1 S1 => match test sl1 S1 with
          | .ok false S2 => dcM v g test key elt sl0 f (n + 1) acc S2
          | .ok true S2 => match key sl1 S2 with
            | .ok y S3 => match elt sl1 S3 with
              | .ok z S4 => match RP.keyOf y with
                | some k => if acc.length < sizeLine then dcM v g test key elt sl0 f (n + 1) (putKW acc k z) S4 else .bad
                | none => .bad
              | _ => .bad
            | _ => .bad
          | _ => .bad
        | _ => .bad
def dcV (v : View) (g : W → Slots → M Slots) (test : Slots → M Bool) (key elt : Slots → M W) (sl0 : Slots) : M W := fun S => match v S with
  | none => .bad
  | some ws => match dcM v g test key elt sl0 (ws.length + 1) 0 [] S with
    | .ok acc S' => .ok (.ref S'.length) (S' ++ [.dct acc])
    | _ => .bad
theorem putKW_zip {K : PySem.W.Frag} {ad : List Addr} {H : Hp} {kvs : List (Key × W)} {vs : List V} (r : RelWs K ad H (kvs.map (·.2)) vs) : ((kvs.map (·.1)).zip vs).length = kvs.length := by
  have := r.length
  rw [List.length_map] at this
  rw [List.length_zip, List.length_map, ← this, Nat.min_self]
section
variable {m : Mo} {T : Tab} {k : Nat} {c t : Bool} {sc scope : Scope} {N : List Str} {ow : Ow} {pos : Pos} {kx vx tg iter : Expr} {ifs : List Expr} {fi : Slots → M View} {gt : Tgt} {ft : Slots → M Bool} {fk fe : Slots → M W}
theorem dc_run {K : PySem.W.Frag} {ad : List Addr} {H : Hp} {S : Sto} {sl : Slots} {σ : L2.St} {Q : VK} {E : XK} {J : It} {v : View} {own : List Nat} (R : Rel T K ad H S) (L : RelSl K ad H sl σ) (rJ : RelIt T K ad H v J) (hix : ∀ i ∈ gt.ix, i ∈ own)
    (h : run T K ad H (dcV v gt.g ft fk fe (wipeS sl own) S) Q E) : ∀ D, H D = none → ∃ Wv : Nat → Nat → Hp → Prop, (∃ m, Wv 0 m (upd H D (.dK []))) ∧ ∀ i m H, Wv i m H →
  (J.stop i H ∧ Q (.ref D) H) ∨ (J.go i H ∧ ∃ Nx : Hp → Prop, (∀ H', Nx H' → ∃ m', m' < m ∧ Wv (i + 1) m' H') ∧ ∀ x H', J.yld i H x H' → gt.t K x (L2.wipe σ own) H' fun σ2 H2 => L2.wipe σ2 own = L2.wipe σ own ∧ rdT T K ft (fun _ _ _ _ => False) σ2 H2 fun b H3 =>
    if b = true then rd T K fk (fun _ _ _ _ => False) σ2 H3 fun y H4 => rd T K fe (fun _ _ _ _ => False) σ2 H4 fun z H5 => ∃ kvs k, y = kV k ∧ H5 D = some (.dK kvs) ∧ kvs.length < sizeLine ∧ Nx (upd H5 D (.dK (putK kvs k z))) else Nx H3) := by
  intro D hD
  unfold dcV at h
  split at h
  · exact h.elim
  · rename_i ws0 e0
    generalize hf : ws0.length + 1 = fuel at h
    refine ⟨fun i n H1 => ∃ ad1 S1 acc vs, Le K ad H ad1 H1 ∧ D ∉ ad1 ∧ Rel T K ad1 H1 S1 ∧ H1 D = some (.dK ((acc.map (·.1)).zip vs)) ∧ RelWs K ad1 H1 (acc.map (·.2)) vs ∧
      run T K ad H (match dcM v gt.g ft fk fe (wipeS sl own) n i acc S1 with | .ok acc S' => .ok (.ref S'.length) (S' ++ [.dct acc]) | _ => .bad) Q E, ?_, ?_⟩
    · exact ⟨fuel, ad, S, [], [], Le.same0 (same_new hD), R.new hD, R.same (same_new hD), upd_same, .nil, h⟩
    · rintro i n H1 ⟨ad1, S1, acc, vs, l1, hd1, R1, eD, ra, h1⟩
      cases n with
      | zero => exact h1.elim
      | succ n =>
        unfold dcM at h1
        cases ev : v S1 with
        | none => rw [ev] at h1; exact h1.elim
        | some ws =>
          rw [ev] at h1
          dsimp only at h1
          obtain ⟨go, stop, yld⟩ := rJ ad1 H1 S1 l1.up R1 ws ev i
          cases ew : ws[i]? with
          | none =>
            rw [ew] at h1
            refine .inl ⟨stop (List.getElem?_eq_none_iff.mp ew), ?_⟩
            refine h1 (ad1 ++ [D]) H1 (.ref D) (l1.take hD fun p z => by rw [eD] at z; cases z) (R1.takeD hd1 eD ra) (.ref (by rw [← R1.len]; simp))
          | some w =>
            rw [ew] at h1
            dsimp only at h1
            refine .inr ⟨go (List.getElem?_eq_some_iff.mp ew).1, fun H' => ∃ ad1 S1 acc vs, Le K ad H ad1 H' ∧ D ∉ ad1 ∧ Rel T K ad1 H' S1 ∧ H' D = some (.dK ((acc.map (·.1)).zip vs)) ∧ RelWs K ad1 H' (acc.map (·.2)) vs ∧
              run T K ad H (match dcM v gt.g ft fk fe (wipeS sl own) n (i + 1) acc S1 with | .ok acc S' => .ok (.ref S'.length) (S' ++ [.dct acc]) | _ => .bad) Q E, fun H' hN => ⟨n, Nat.lt_succ_self n, hN⟩, fun x H2 y => ?_⟩
            obtain ⟨sm, rx⟩ := yld x H2 y w ew
            have l2 : Le K ad1 H1 ad1 H2 := Le.same0 sm
            have R2 := R1.same sm
            cases eg : gt.g w (wipeS sl own) S1 with
            | ok sl2 S2 =>
              rw [eg] at h1
              dsimp only at h1
              refine tgt_run R2 (((L.mono l1).mono l2).wipe own) rx eg fun σ2 eS L2 hw => ⟨?_, ?_⟩
              · rw [hw own hix]
                exact wipe_wipe σ own
              subst eS
              refine ⟨ad1, S2, sl2, R2, L2, ?_⟩
              have keepD : ∀ {ad3 : List Addr} {H3 : Hp}, Le K ad1 H2 ad3 H3 → H3 D = some (.dK ((acc.map (·.1)).zip vs)) ∧ D ∉ ad3 := fun {ad3 H3} l3 => by
                refine ⟨l3.frm D _ (sm _ _ eD) trivial hd1, fun hm => ?_⟩
                exact l3.new D hm hd1 _ (sm _ _ eD) trivial
              cases et : ft sl2 S2 with
              | ok b S3 =>
                rw [et] at h1
                intro ad3 H3 l3 R3
                obtain ⟨eD3, hd3⟩ := keepD l3
                cases b with
                | false =>
                  rw [if_neg Bool.false_ne_true]
                  exact ⟨ad3, S3, acc, vs, (l1.trans l2).trans l3, hd3, R3, eD3, (ra.mono l2).mono l3, h1⟩
                | true =>
                  rw [if_pos rfl]
                  dsimp only at h1
                  refine ⟨ad3, S3, sl2, R3, L2.mono l3, ?_⟩
                  cases ek : fk sl2 S3 with
                  | ok yk S4 =>
                    rw [ek] at h1
                    dsimp only at h1
                    intro ad4 H4 yv l4 R4 ry
                    refine ⟨ad4, S4, sl2, R4, (L2.mono l3).mono l4, ?_⟩
                    cases ee : fe sl2 S4 with
                    | ok zw S5 =>
                      rw [ee] at h1
                      dsimp only at h1
                      intro ad5 H5 zv l5 R5 rz
                      obtain ⟨eD5, hd5⟩ := keepD ((l3.trans l4).trans l5)
                      cases eK : RP.keyOf yk with
                      | none => rw [eK] at h1; exact h1.elim
                      | some kk =>
                        rw [eK] at h1
                        dsimp only at h1
                        by_cases hz : acc.length < sizeLine
                        · rw [if_pos hz] at h1
                          have ra5 := (((ra.mono l2).mono l3).mono l4).mono l5
                          obtain ⟨us, p1, p2⟩ := putK_rel (k := kk) rz ra5
                          have b6 : But D H5 (upd H5 D (.dK (putK ((acc.map (·.1)).zip vs) kk zv))) := But.upd eD5 trivial
                          have u6 : Up K ad5 H5 ad5 (upd H5 D (.dK (putK ((acc.map (·.1)).zip vs) kk zv))) := ⟨List.prefix_rfl, fun a xs q => by
                            rcases q with (q | ⟨o, q⟩) | q
                            · exact .inl (.inl (b6.tup _ _ q))
                            · exact .inl (.inr ⟨o, b6.keep _ _ (fun z => by rw [z, eD5] at q; cases q) trivial q⟩)
                            · exact .inr q, fun c q n e => ⟨b6.keep _ _ (fun z => by rw [z, eD5] at e; cases e) trivial e, n⟩⟩
                          refine ⟨_, kk, keyOf_rel eK ry, eD5, by rw [putKW_zip ra5]; exact hz, ad5, S5, putKW acc kk zw, us, ((((l1.trans l2).trans l3).trans l4).trans l5).offD hD eD5, hd5, R5.off hd5 u6 b6 (by intro x; rw [eD5]; intro z; cases z) (by intro x; rw [eD5]; intro z; cases z) (by intro x; rw [eD5]; intro z; cases z), ?_, p2.up u6, h1⟩
                          rw [upd_same, p1]
                        · rw [if_neg hz] at h1; exact h1.elim
                    | ex x S => rw [ee] at h1; exact h1.elim
                    | bad => rw [ee] at h1; exact h1.elim
                  | ex x S => rw [ek] at h1; exact h1.elim
                  | bad => rw [ek] at h1; exact h1.elim
              | ex x S => rw [et] at h1; exact h1.elim
              | bad => rw [et] at h1; exact h1.elim
            | ex x S => rw [eg] at h1; exact h1.elim
            | bad => rw [eg] at h1; exact h1.elim
/-- {k: v for target in iter if ..} -/
theorem e_dc (own : List (Str × Nat)) (hc : c = true) (hi : SIt m T k c t sc N ow tg iter fi) (hok : blkC N sc scope own = true) (hg : STg m T k c false (relS scope sc) N (ow0 (cellsOf scope)) tg gt) (ht : STs m T k c false (relS scope sc) N (ow0 (cellsOf scope)) ifs ft)
    (hk : SE m T k c false (relS scope sc) N (ow0 (cellsOf scope)) kx fk) (he : SE m T k c false (relS scope sc) N (ow0 (cellsOf scope)) vx fe) (hix : ∀ i ∈ gt.ix, i ∈ own.map (·.2) := by decide) (hs : ∀ env x, foldedSetIterable iter env x = pure x := by intro _ _; rfl) :
    SE m T k c t sc N ow (.DictComp kx vx [⟨tg, iter, ifs, 0⟩] scope pos) (fun sl => bdI (fi sl) fun v => dcV v gt.g ft fk fe (wipeS sl (own.map (·.2)))) := fun X g Wx tk => by
  have ok := blkOk_by hok
  refine (pe_dc (own := own) (g.calm hc) (by rw [g.hN]; exact g.nd) (hi X g Wx tk) (by rw [g.hN, g.hsc]; exact ok) (fun s H C cl fp => hg _ (good_blk g ok.uniq s H C cl fp)) (fun s H C cl fp => ht _ (good_blk g ok.uniq s H C cl fp) _ takes_blk)
    (fun s H C cl fp => hk _ (good_blk g ok.uniq s H C cl fp) _ takes_blk) (fun s H C cl fp => he _ (good_blk g ok.uniq s H C cl fp) _ takes_blk) (hs _)).imp fun σ H Q h => ?_
  obtain ⟨ad, S, sl, R, L, h⟩ := h
  refine ⟨ad, S, sl, R, L, runI_imp (run_bdI h) ?_⟩
  rintro J H1 ⟨ad1, S1, v, l1, R1, r1, h1⟩
  exact dc_run R1 (L.mono l1) r1 hix h1
end
end RP

/-! RpAM: list.count of data, dict(pairs), dict != dict, list(d), list(d.items()), extend by a tuple. -/
namespace RP
open PySem L2 PySem.Spec PyProof.Rows
theorem extTup (l : Addr) (items : Array Value) (n : Nat) (b : Addr) (items2 : Array Value) (n2 : Nat) (dd : Option Addr) (sl : Array (Option Value)) (hs0 : ¬(!items.isEmpty && Builtin.List.listTooLong (items.size + items2.size)) = true) (hs1 : items.size ≤ sizeLine) (hs2 : items.size + items2.size ≤ sizeLine + 1) :
    Meets (Builtin.«list.extend» ⟨[.ref l, .ref b], []⟩) (fun _ R s => s.heap.get? l = some { cls := .type "list", dict := none, data := .seq items n, slots := #[] } ∧ s.heap.get? b = some { cls := .type "tuple", dict := dd, data := .seq items2 n2, slots := sl } ∧ R (.ok (.ret Value.none)) { s with heap := s.heap.update l (Obj.mapSeq fun x => x ++ items2), toks := s.toks }) :=
  .of_wp fun prog w A R s h => by
    obtain ⟨hp, g, d, tk, os⟩ := s
    obtain ⟨hl, hb, h⟩ := h
    have f1 := AutoSeq1.idx_int
    have f2 := AutoSeq1.sub_tuple_tuple
    have f3 := AutoSeq1.sub_list_list
    have f4 := AutoSeq1.sub_tuple_list
    have f5 := AutoSeq1.sub_list_tuple
    have hz' : (items ++ items2).size ≤ sizeLine + 1 := by rw [Array.size_append]; exact hs2
    wp_walk using (wpAny_updateSeq hl rfl (hz := hs1) (_hz' := hz')), wpAny_loadPart' hl, wpAny_loadPart' hb
    exact ⟨_, rfl, h⟩
def keyW : Key → W
  | .inl i => .int i
  | .inr x => .str x
theorem keyW_rel {K : PySem.W.Frag} {ad : List Addr} {H : Hp} (k : Key) : RelW K ad H (keyW k) (kV k) := by cases k <;> constructor
section
variable {m : Mo} {T : Tab} {k : Nat} {c t : Bool} {sc : Scope} {N : List Str} {ow : Ow}
/-- extend by a tuple -/
def extendTM (w : W) (ws : List W) : M W := fun S => match w, ws with
  | .ref i, [.tup ys] => match S[i]? with
    | some (.lst xs) => if xs.length + ys.length ≤ sizeLine then .ok .non (S.set i (.lst (xs ++ ys))) else .bad
    | _ => .bad
  | _, _ => .bad
theorem m_extendT : SM m T k c t sc N ow "list.extend" extendTM := fun X g E pins s σ H x xs v us Q I rx rs ⟨ad, S, w, ws, R, rw', rws, h⟩ => by
  obtain ⟨rfl, _⟩ := g
  unfold extendTM at h
  split at h
  · cases rw' with
    | ref e1 =>
    match xs, rws with
    | [_], .cons (.tup sq ry) .nil =>
      split at h
      · rename_i ys hs
        split at h
        · rename_i hz
          obtain ⟨vs, q, r2⟩ := R.lst e1 hs
          cases rx
          obtain ⟨u, rfl, ru⟩ := rs.one
          cases ru
          obtain ⟨z, its, n, rr, hl, e⟩ := I.lstM q
          obtain ⟨its2, rv2, ⟨⟨cls, dd, data, sl⟩, ho, hc, n2, hd⟩, _⟩ := I.tuple sq
          simp only at hc hd
          subst hc hd
          have l1 := r2.length
          have l2 := ry.length
          have l3 := rr.length
          have l4 := rv2.length
          have hsz : its.toArray.size + its2.toArray.size ≤ sizeLine := by rw [List.size_toArray, List.size_toArray]; omega
          have hlong : ¬ (!its.toArray.isEmpty && Builtin.List.listTooLong (its.toArray.size + its2.toArray.size)) = true := by
            rw [notLongL hsz, Bool.and_false]
            exact Bool.false_ne_true
          refine call_meets PySem.F.slot_list_extend ⟨_, e, rfl⟩ PySem.F.entry_list_extend (PySem.F.args_list_extend_2 _ _) (extTup _ its.toArray n _ its2.toArray n2 dd sl hlong (by rw [List.size_toArray]; omega) (by omega)) ⟨e, ho, ?_⟩
          refine ⟨.non, _, I.lset (its' := its ++ its2) q e (by simp) (rr.append rv2) ?_, rfl, run_wlst R e1 q (r2.append ry) .non h⟩
          rw [List.length_append]
          omega
        · exact h.elim
      · exact h.elim
  · exact h.elim
/-- list.count by data -/
def countM (w : W) (ws : List W) : M W := fun S => match w, ws with
  | .ref i, [y] => match S[i]? with
    | some (.lst xs) => match xs.mapM (dat 9 S), dat 9 S y with
      | some ds, some d => if PyData.plainAll ds && d.plain && decide (PyData.depthAll ds ≤ 60) then .ok (.int ((ds.countP fun z => PyData.eqv z d : Nat) : Int)) S else .bad
      | _, _ => .bad
    | _ => .bad
  | _, _ => .bad
theorem m_countG (hun : ∀ X, Good m k c t sc N ow X → X.A.units + 65 < cLine) : SM m T k c t sc N ow "list.count" countM := fun X g E pins s σ H x xs v us Q I rx rs ⟨ad, S, w, ws, R, rw', rws, h⟩ => by
  have hu : X.A.units + 65 < cLine := hun X g
  obtain ⟨rfl, _⟩ := g
  unfold countM at h
  split at h
  · cases rw' with
    | ref e1 =>
    match xs, rws with
    | [_], .cons ry .nil =>
      split at h
      · rename_i ys hs
        split at h
        · rename_i ds d hd hdy
          split at h
          · rename_i hz
            simp only [Bool.and_eq_true, decide_eq_true_eq] at hz
            obtain ⟨vs, q, r2⟩ := R.lst e1 hs
            cases rx
            obtain ⟨u, rfl, ru⟩ := rs.one
            obtain ⟨its, rv, pl, _⟩ := I.list (SqL.of q)
            obtain ⟨as, rd⟩ := Dp.readsAll I ds vs its (dat_all (dat_dp R 9) hd r2) rv
            obtain ⟨bs, rdy⟩ := Dp.reads I d _ u (dat_dp R 9 _ _ _ hdy ry) ru
            refine SeqAt.count_list_data pl.isList (by simpa using rd) rdy hz.1.1 hz.1.2 ?_ ?_
            · have := Nat.min_le_left (PyData.depthAll ds) d.depth
              omega
            · exact ⟨.int _, H, I.kept (fun _ _ h => h), ⟨_, rfl⟩, run_ok R (.int _) h⟩
          · exact h.elim
        · exact h.elim
      · exact h.elim
  · exact h.elim
theorem m_count (hc : c = true) : SM m T k c t sc N ow "list.count" countM := m_countG fun X g => by have := (g.room hc).un; omega
def mergeW (kvs more : List (Key × W)) : List (Key × W) := more.foldl (fun acc kv => putKW acc kv.1 kv.2) kvs
theorem merge_rel {K : PySem.W.Frag} {ad : List Addr} {H : Hp} : ∀ {more : List (Key × W)} {us : List V} {kvs : List (Key × W)} {vs : List V}, RelWs K ad H (more.map (·.2)) us → RelWs K ad H (kvs.map (·.2)) vs → ∃ zs, mergeK ((kvs.map (·.1)).zip vs) ((more.map (·.1)).zip us) = ((mergeW kvs more).map (·.1)).zip zs ∧ RelWs K ad H ((mergeW kvs more).map (·.2)) zs
  | [], _, kvs, vs, .nil, r => ⟨vs, rfl, r⟩
  | p :: more, _, kvs, vs, .cons ra rr, r => by
    obtain ⟨zs, e1, e2⟩ := putK_rel (k := p.1) ra r
    obtain ⟨ys, e3, e4⟩ := merge_rel rr e2
    refine ⟨ys, ?_, e4⟩
    rw [← e1] at e3
    exact e3
/-- list(d.items()) -/
def itemsM (d : W) : M W := fun S => match dctOf S d with
  | some (_, kvs) => .ok (.ref S.length) (S ++ [.lst (kvs.map fun kv => .tup [keyW kv.1, kv.2])])
  | none => .bad
theorem items_rel {K : PySem.W.Frag} {ad : List Addr} {H H' : Hp} (u : Up K ad H ad H') : ∀ {kvs : List (Key × W)} {vs : List V} {ts : List Addr}, RelWs K ad H (kvs.map (·.2)) vs → PySem.Paired (fun (t : Addr) (q : Key × V) => H' t = some (.tup [kV q.1, q.2])) ts ((kvs.map (·.1)).zip vs) → RelWs K ad H' (kvs.map fun kv => .tup [keyW kv.1, kv.2]) (ts.map V.ref)
  | [], _, _, .nil, h => by cases h; exact .nil
  | p :: kvs, _, _, .cons ra rr, h => by
    rw [List.map_cons, List.zip_cons_cons] at h
    cases h with
    | cons h1 h2 => exact .cons (.tup (.inl (.inl h1)) (.cons (keyW_rel p.1) (.cons (ra.up u) .nil))) (items_rel u rr h2)
theorem e_listItems {e : Expr} {fe : Slots → M W} {p apos cpos pos : Pos} (hc : c = true) (hl : m.mg "list" = none) (he : SE m T k c t sc N ow e fe) (gl : sc.names.lookup ("list" : Str) = some .globalImplicit := by rfl) (hv : bootBuiltins "list" = some (.type "list") := by decide +kernel)
    (hbase : ∀ env, attributeBase e "items" env (eval e env) = eval e env := by intro _; rfl) (hline : (apos.endLine == cpos.line) = true := by rfl) (nb : ∀ env, starEach [(.Call (.Attribute e "items" apos) [] [] cpos : Expr)] env = (false, eval (.Call (.Attribute e "items" apos) [] [] cpos) env) :: starEach [] env := by intro _; rfl) :
    SE m T k c t sc N ow (.Call (.Name "list" p) [.Call (.Attribute e "items" apos) [] [] cpos] [] pos) (fun sl => bd (fe sl) itemsM) := fun X g Wx tk => by
  have em : X.mg = m.mg := by rw [← g.mo]; rfl
  have ek : X.K = m.K := by rw [← g.mo]; rfl
  refine (LiI.pe_listItems (p := p) (pos := pos) (g.calm hc) (he X g Wx tk) (gl_of g gl) (by rw [em]; exact hl) hv (hbase _) hline (nb _)).imp fun σ H Q h => ?_
  obtain ⟨ad, S, sl, R, L, h⟩ := h
  refine ⟨ad, S, sl, R, L, run_imp (run_bd h) ?_⟩
  rintro v H1 ⟨ad1, S1, w1, l1, R1, r1, h1⟩
  unfold itemsM at h1
  split at h1
  · rename_i i kvs hd
    obtain ⟨a, vs, rfl, e1, e2, e3, e4⟩ := dctOf_rel R1 r1 hd
    refine ⟨a, _, rfl, e3, fun H' q ts hk hq hts hqt hl' hp => ?_⟩
    have sm : Same H1 H' := hk
    have u : Up m.K ad1 H1 ad1 H' := (Le.same0 (K := m.K) (ad := ad1) sm).up
    have ri := items_rel u e4 hp
    have nc : ∀ c qn, c ∉ ad1 → H' c = some (LamX.CodeO c qn) → H' c = some (LamX.CodeO c qn) ∧ c ∉ ad1 ++ [q] := fun c qn n e => ⟨e, fun z => by
      rcases List.mem_append.mp z with z | z
      · exact n z
      · have z : c = q := by simpa using z
        subst z
        rw [hl'] at e
        cases e⟩
    refine h1 (ad1 ++ [q]) H' (.ref q) (Le.one sm hq) (R1.alloc sm hq ⟨_, hl', ri.up ⟨⟨_, rfl⟩, fun _ _ h => h, nc⟩⟩) (.ref (by rw [← R1.len]; simp))
  · exact h1.elim
end
end RP

/-! RpAN: {k: v, ..} written out. -/
namespace RP
open PySem L2
inductive RelPs (K : PySem.W.Frag) (ad : List Addr) (H : Hp) : List (W × W) → List (V × V) → Prop
  | nil : RelPs K ad H [] []
  | cons {a b : W} {u v : V} {ps : List (W × W)} {vs : List (V × V)} : RelW K ad H a u → RelW K ad H b v → RelPs K ad H ps vs → RelPs K ad H ((a, b) :: ps) ((u, v) :: vs)
def runP (T : Tab) (K : PySem.W.Frag) (ad : List Addr) (H : Hp) (r : Res (List (W × W))) (Q : List (V × V) → Hp → Prop) (E : XK) : Prop := match r with
  | .ok ws S => ∀ ad' H' vs, Le K ad H ad' H' → Rel T K ad' H' S → RelPs K ad' H' ws vs → Q vs H'
  | .ex x S => ∀ ad' H' cls d, Le K ad H ad' H' → Rel T K ad' H' S → RelX T K ad' H' x cls d → E cls d H'
  | .bad => False
section
variable {T : Tab} {K : PySem.W.Frag} {ad ad' : List Addr} {H H' : Hp}
theorem runP_mono {r : Res (List (W × W))} {Q : List (V × V) → Hp → Prop} {E : XK} (l : Le K ad H ad' H') (h : runP T K ad H r Q E) : runP T K ad' H' r Q E := by
  cases r with
  | ok w S => exact fun a b c l' => h a b c (l.trans l')
  | ex x S => exact fun a b c d l' => h a b c d (l.trans l')
  | bad => exact h
theorem run_bdP {m : M W} {k : W → M (List (W × W))} {S : Sto} {Q : List (V × V) → Hp → Prop} {E : XK} (h : runP T K ad H (bd m k S) Q E) :
    run T K ad H (m S) (fun v H1 => ∃ ad1 S1 w, Le K ad H ad1 H1 ∧ Rel T K ad1 H1 S1 ∧ RelW K ad1 H1 w v ∧ runP T K ad1 H1 (k w S1) Q E) E := by
  unfold bd at h
  cases q : m S with
  | ok w S1 => rw [q] at h; exact fun a b c l R r => ⟨a, S1, w, l, R, r, runP_mono l h⟩
  | ex x S => rw [q] at h; exact h
  | bad => rw [q] at h; exact h
theorem runP_bdP {m : M (List (W × W))} {k : List (W × W) → M (List (W × W))} {S : Sto} {Q : List (V × V) → Hp → Prop} {E : XK} (h : runP T K ad H (bd m k S) Q E) :
    runP T K ad H (m S) (fun v H1 => ∃ ad1 S1 w, Le K ad H ad1 H1 ∧ Rel T K ad1 H1 S1 ∧ RelPs K ad1 H1 w v ∧ runP T K ad1 H1 (k w S1) Q E) E := by
  unfold bd at h
  cases q : m S with
  | ok w S1 => rw [q] at h; exact fun a b c l R r => ⟨a, S1, w, l, R, r, runP_mono l h⟩
  | ex x S => rw [q] at h; exact h
  | bad => rw [q] at h; exact h
theorem runP_imp {r : Res (List (W × W))} {Q Q' : List (V × V) → Hp → Prop} {E : XK} (h : runP T K ad H r Q E) (q : ∀ v H, Q v H → Q' v H) : runP T K ad H r Q' E := by
  cases r with
  | ok w S => exact fun a b c l' R r => q _ _ (h a b c l' R r)
  | ex x S => exact h
  | bad => exact h
end
def rdP (T : Tab) (K : PySem.W.Frag) (f : Slots → M (List (W × W))) (Wx : WX) : St → Hp → (List (V × V) → Hp → Prop) → Prop := fun σ H Q => ∃ ad S sl, Rel T K ad H S ∧ RelSl K ad H sl σ ∧ runP T K ad H (f sl S) Q fun c d H' => Wx c d σ H'
section
variable (m : Mo) (T : Tab) (k : Nat) (c t : Bool) (sc : Scope) (N : List Str) (ow : Ow)
def SP (pos : Pos) (keys : List (Option Expr)) (values : List Expr) (f : Slots → M (List (W × W))) : Prop := ∀ X, Good m k c t sc N ow X → ∀ Wx, Takes X Wx → ∃ trs, PPs X pos keys values trs ∧ ∀ σ H Q, rdP T m.K f Wx σ H Q → tPairs trs σ H Q
end
def keysOf : List (W × W) → Option (List (Key × W))
  | [] => some []
  | (a, b) :: r => match keyOf a, keysOf r with
    | some k, some ks => some ((k, b) :: ks)
    | _, _ => none
theorem keysOf_rel {K : PySem.W.Frag} {ad : List Addr} {H : Hp} : ∀ {ps : List (W × W)} {vs : List (V × V)} {kvs : List (Key × W)}, keysOf ps = some kvs → RelPs K ad H ps vs → ∃ us, vs = ((kvs.map (·.1)).zip us).map (fun kv => (kV kv.1, kv.2)) ∧ RelWs K ad H (kvs.map (·.2)) us ∧ ps.length = kvs.length
  | [], _, _, e, .nil => by cases e; exact ⟨[], rfl, .nil, rfl⟩
  | _ :: ps, _, kvs, e, .cons ra rb rr => by
    simp only [keysOf] at e
    split at e
    · rename_i kk ks h1 h2
      cases e
      obtain ⟨us, e1, e2, e3⟩ := keysOf_rel h2 rr
      refine ⟨_ :: us, ?_, .cons rb e2, by simp [e3]⟩
      rw [List.map_cons, List.zip_cons_cons, List.map_cons, ← e1, keyOf_rel h1 ra]
    · cases e
def dispM (f : M (List (W × W))) : M W := fun S => match f (S ++ [.dct []]) with
  | .ok ps S' => match keysOf ps, S'[S.length]? with
    | some kvs, some (.dct []) => if kvs.length ≤ 15 then .ok (.ref S.length) (S'.set S.length (.dct (mergeW [] kvs))) else .bad
    | _, _ => .bad
  | .ex x S' => .ex x S'
  | .bad => .bad
section
variable {m : Mo} {T : Tab} {k : Nat} {c t : Bool} {sc : Scope} {N : List Str} {ow : Ow} {a b : Expr} {fa fb : Slots → M W} {pos : Pos} {keys : List (Option Expr)} {values : List Expr} {fs : Slots → M (List (W × W))}
theorem sp_nil : SP m T k c t sc N ow pos [] [] (fun _ => ret []) := fun X g Wx tk => ⟨[], pps_nil, fun σ H Q ⟨ad, S, sl, R, L, h⟩ => h ad H [] Le.refl R .nil⟩
theorem sp_cons (ha : SE m T k c t sc N ow a fa) (hb : SE m T k c t sc N ow b fb) (hs : SP m T k c t sc N ow pos keys values fs) :
    SP m T k c t sc N ow pos (some a :: keys) (b :: values) (fun sl => bd (fa sl) fun x => bd (fb sl) fun y => bd (fs sl) fun ps => ret ((x, y) :: ps)) := fun X g Wx tk => by
  obtain ⟨trs, h1, h2⟩ := hs X g Wx tk
  refine ⟨_, pps_cons (ha X g Wx tk) (hb X g Wx tk) h1, ?_⟩
  rintro σ H Q ⟨ad, S, sl, R, L, h⟩
  refine ⟨ad, S, sl, R, L, run_imp (run_bdP h) ?_⟩
  rintro v H1 ⟨ad1, S1, w1, l1, R1, r1, h3⟩
  refine ⟨ad1, S1, sl, R1, L.mono l1, run_imp (run_bdP h3) ?_⟩
  rintro u H2 ⟨ad2, S2, w2, l2, R2, r2, h4⟩
  refine h2 σ H2 _ ⟨ad2, S2, sl, R2, (L.mono l1).mono l2, runP_imp (runP_bdP h4) ?_⟩
  rintro ps H3 ⟨ad3, S3, w3, l3, R3, r3, h5⟩
  exact h5 ad3 H3 _ Le.refl R3 (.cons ((r1.mono l2).mono l3) (r2.mono l3) r3)
theorem e_disp (hs : SP m T k c t sc N ow pos keys values fs) (hall : (keys.all fun x => x.isSome) = true := by rfl) (hl : keys.length = values.length := by rfl) (h0 : keys ≠ [] := by exact fun z => nomatch z) (h15 : keys.length ≤ 15 := by decide) :
    SE m T k c t sc N ow (.Dict keys values pos) (fun sl => dispM (fs sl)) := fun X g Wx tk => by
  obtain ⟨trs, h1, h2⟩ := hs X g Wx tk
  refine (pe_disp h1 hall hl h0 h15).imp fun σ H Q h => ?_
  obtain ⟨ad, S, sl, R, L, h⟩ := h
  intro p hp
  have sm : Same H (upd H p (.dK [])) := same_new hp
  have l0 : Le m.K ad H (ad ++ [p]) (upd H p (.dK [])) := Le.one sm hp
  have R0 : Rel T m.K (ad ++ [p]) (upd H p (.dK [])) (S ++ [.dct []]) := R.alloc sm hp ⟨[], upd_same, .nil⟩
  refine h2 σ _ _ ⟨_, _, sl, R0, L.mono l0, ?_⟩
  unfold dispM at h
  dsimp only at h
  cases q : fs sl (S ++ [.dct []]) with
  | bad => rw [q] at h; exact h
  | ex x S' => rw [q] at h; exact fun a b c d l' => h a b c d (l0.trans l')
  | ok ps S' =>
    rw [q] at h
    dsimp only at h
    intro ad' H' vs l' R' r'
    have ep : ad'[S.length]? = some p := pre_get l'.pre (by rw [← R.len]; simp)
    cases qk : keysOf ps with
    | none => rw [qk] at h; exact h.elim
    | some kvs =>
      rw [qk] at h
      cases qd : S'[S.length]? with
      | none => rw [qd] at h; exact h.elim
      | some o =>
        rw [qd] at h
        match o, qd, h with
        | .dct [], qd, h =>
          dsimp only at h
          by_cases h15' : kvs.length ≤ 15
          · rw [if_pos h15'] at h
            obtain ⟨us0, g1, g2⟩ := R'.ob _ _ _ ep qd
            have g1' : H' p = some (.dK []) := g1
            obtain ⟨us, e1, e2, e3⟩ := keysOf_rel qk r'
            refine ⟨g1', _, e1, ?_, ?_⟩
            · rw [List.length_zip, List.length_map]; omega
            · obtain ⟨zs, m1, m2⟩ := merge_rel (kvs := []) (vs := []) e2 .nil
              have m1' : mergeK [] ((kvs.map (·.1)).zip us) = ((mergeW [] kvs).map (·.1)).zip zs := m1
              rw [m1']
              have b5 : But p H' (upd H' p (.dK (((mergeW [] kvs).map (·.1)).zip zs))) := But.upd g1' trivial
              have hf : ∀ o u, H' p ≠ some (.frz o (.tup u)) := fun o u z => by rw [g1'] at z; cases z
              have l5 := b5.le (K := m.K) hf (List.mem_of_getElem? ep) (R'.keen ep)
              exact h _ _ _ ((l0.trans l').trans l5) (R'.write ep b5 hf ⟨zs, upd_same, m2.mono l5⟩) (.ref ep)
          · rw [if_neg h15'] at h; exact h.elim
        | .dct (_ :: _), _, h => exact h.elim
        | .lst _, _, h => exact h.elim
        | .scr _, _, h => exact h.elim
        | .ins _ _, _, h => exact h.elim
        | .slo _ _, _, h => exact h.elim
end
theorem ho_disp {S : Sto} {Q : W → Sto → Prop} {E : XQ} {f : M (List (W × W))} : Ho (dispM f S) Q E ↔ Ho (f (S ++ [.dct []])) (fun ps S' => ∃ kvs, keysOf ps = some kvs ∧ S'[S.length]? = some (.dct []) ∧ kvs.length ≤ 15 ∧ Q (.ref S.length) (S'.set S.length (.dct (mergeW [] kvs)))) E := by
  unfold dispM
  cases f (S ++ [.dct []]) with
  | bad => simp only [hoD, HoD]
  | ex x S' => simp only [hoD, HoD]
  | ok ps S' =>
    dsimp only
    constructor
    · intro h
      split at h
      · rename_i kvs h1 h2
        by_cases h3 : kvs.length ≤ 15
        · rw [if_pos h3] at h
          exact ⟨kvs, h1, h2, h3, ho_ok.mp h⟩
        · rw [if_neg h3] at h; exact (ho_bad.mp h).elim
      · exact (ho_bad.mp h).elim
    · intro h
      obtain ⟨kvs, h1, h2, h3, h4⟩ := h.h
      rw [h1, h2]
      dsimp only
      rw [if_pos h3]
      exact ho_ok.mpr h4
end RP

/-! RpAO: x[::-1] of a text, of a list. -/
namespace RP
open PySem L2
section
variable {m : Mo} {T : Tab} {k : Nat} {c t : Bool} {sc : Scope} {N : List Str} {ow : Ow} {e : Expr} {fe : Slots → M W} {j : Nat} {p1 p2 p3 pos : Pos}
end
end RP

/-! RpAP: set(xs) of tuples of any depth (texts, ints, None, tuples); len(set(xs)) of them. -/
namespace RP
open PySem L2 PySem.Spec PyProof.Rows
section
variable {P : Program} {w : World}
/-- a question that says b and does nothing; one that says anything and does nothing -/
def Ans (P : Program) (w : World) (s : Shared) (q : Sem Bool) (b : Bool) : Prop := ∀ (A : Around) (E : Value → Shared → Prop) (Q : Bool → Shared → Prop), Q b s → wpAny (model P w) A q Q E s
def Ask (P : Program) (w : World) (s : Shared) (q : Sem Bool) : Prop := ∀ (A : Around) (E : Value → Shared → Prop) (Q : Bool → Shared → Prop), (∀ b, Q b s) → wpAny (model P w) A q Q E s
mutual
theorem cls_key : ∀ (k : NestedKey) (v : Value) (n : Nat) (s : Shared), NestedIs s.heap k v → k.depth ≤ n → Ans P w s (ofAClassStatement n v) false
  | .none, _, n, s, x, _ => fun A E Q q => by
    cases x
    have e : ofAClassStatement n .none = pure false := by cases n <;> rfl
    rw [e]; exact wpAny_pure q
  | .num i, _, n, s, x, _ => fun A E Q q => by
    cases x with
    | @bool b _ _ =>
      have e : ofAClassStatement n (.bool b) = pure false := by cases n <;> rfl
      rw [e]; exact wpAny_pure q
    | int _ t =>
      have e : ofAClassStatement n (.int i t) = pure false := by cases n <;> rfl
      rw [e]; exact wpAny_pure q
  | .text y, _, n, s, x, _ => fun A E Q q => by
    cases x with
    | text _ t =>
      have e : ofAClassStatement n (.str y t) = pure false := by cases n <;> rfl
      rw [e]; exact wpAny_pure q
  | .tup ks, _, n, s, x, hn => fun A E Q q => by
    cases x with
    | @tup b o vs m _ g1 g2 g3 g4 =>
      simp only [NestedKey.depth] at hn
      cases n with
      | zero => omega
      | succ n =>
        have all := cls_keys ks vs.toList n s g4 (by omega)
        unfold ofAClassStatement
        refine wpAny_bind (wpAny_typeOf (⟨o, g1, g2⟩ : s.TypeIs (.ref b) "tuple") ?_)
        dsimp only
        have e : (("tuple" : String) == "tuple") = true := by decide
        simp only [e, if_true, Bool.not_true, Bool.false_eq_true, if_false]
        try refine wpAny_bind (wpAny_pure ?_)
        try simp only [Bool.not_true, Bool.false_eq_true, if_false]
        show wpAny _ _ (seqItems? (.ref b) >>= _) _ _ s
        refine wpAny_bind (wpAny_seqItems g1 g3 ?_)
        dsimp only
        refine wpAny_bind ?_
        show wpAny _ _ (forIn vs _ _) _ _ s
        rw [← Array.forIn_toList]
        refine wpAny_forIn_list _ (fun l r z => r.1 = none ∧ z = s ∧ ∀ u ∈ l, Ans P w s (ofAClassStatement n u) false) _ ?_ ?_ _ _ ⟨rfl, rfl, all⟩
        · rintro u l r z ⟨_, rfl, al⟩
          refine wpAny_bind (al u List.mem_cons_self _ _ _ ?_)
          simp only [Bool.false_eq_true, if_false]
          exact wpAny_pure ⟨rfl, rfl, fun y hy => al y (.tail _ hy)⟩
        · rintro ⟨r1, r2⟩ z ⟨er, rfl, _⟩
          simp only at er
          subst er
          exact wpAny_pure q
theorem cls_keys : ∀ (ks : List NestedKey) (vs : List Value) (n : Nat) (s : Shared), NestedAll s.heap ks vs → NestedKey.depthAll ks ≤ n → ∀ v ∈ vs, Ans P w s (ofAClassStatement n v) false
  | [], _, n, s, x, _, v, hv => by cases x; cases hv
  | k :: ks, _, n, s, x, hn, v, hv => by
    cases x with
    | cons x1 x2 =>
      simp only [NestedKey.depthAll] at hn
      rcases List.mem_cons.mp hv with e | hv
      · rw [e]; exact cls_key k _ n s x1 (by omega)
      · exact cls_keys ks _ n s x2 (by omega) v hv
end
mutual
theorem hby_key : ∀ (k : NestedKey) (v : Value) (n : Nat) (s : Shared), NestedIs s.heap k v → Ask P w s (hashByValue n v)
  | .none, _, n, s, x => fun A E Q q => by
    cases x
    have e : hashByValue n .none = pure true := by cases n <;> rfl
    rw [e]; exact wpAny_pure (q _)
  | .num i, _, n, s, x => fun A E Q q => by
    cases x with
    | @bool b _ _ =>
      have e : hashByValue n (.bool b) = pure true := by cases n <;> rfl
      rw [e]; exact wpAny_pure (q _)
    | int _ t =>
      have e : hashByValue n (.int i t) = pure true := by cases n <;> rfl
      rw [e]; exact wpAny_pure (q _)
  | .text y, _, n, s, x => fun A E Q q => by
    cases x with
    | text _ t =>
      have e : hashByValue n (.str y t) = pure false := by cases n <;> rfl
      rw [e]; exact wpAny_pure (q _)
  | .tup ks, _, n, s, x => fun A E Q q => by
    cases x with
    | @tup b o vs m _ g1 g2 g3 g4 =>
      cases n with
      | zero =>
        have e : hashByValue 0 (.ref b) = pure false := rfl
        rw [e]; exact wpAny_pure (q _)
      | succ n =>
        have all := hby_keys ks vs.toList n s g4
        unfold hashByValue
        refine wpAny_bind (wpAny_specialOf (⟨o, g1, g2⟩ : s.TypeIs (.ref b) "tuple") F.slot_tuple_hash.lookup ?_)
        show wpAny _ _ (seqItems? (.ref b) >>= _) _ _ s
        refine wpAny_bind (wpAny_seqItems g1 g3 ?_)
        refine wpAny_bind ?_
        show wpAny _ _ (forIn vs _ _) _ _ s
        rw [← Array.forIn_toList]
        refine wpAny_forIn_list _ (fun l r z => r.1 = none ∧ z = s ∧ ∀ u ∈ l, Ask P w s (hashByValue n u)) _ ?_ ?_ _ _ ⟨rfl, rfl, all⟩
        · rintro u l r z ⟨_, rfl, al⟩
          refine wpAny_bind (al u List.mem_cons_self _ _ _ fun c => ?_)
          cases c with
          | true =>
            simp only [Bool.not_true, Bool.false_eq_true, if_false]
            exact wpAny_pure ⟨rfl, rfl, fun y hy => al y (.tail _ hy)⟩
          | false =>
            simp only [Bool.not_false, if_true]
            exact wpAny_pure (wpAny_pure (q _))
        · rintro ⟨r1, r2⟩ z ⟨er, rfl, _⟩
          simp only at er
          subst er
          exact wpAny_pure (q _)
theorem hby_keys : ∀ (ks : List NestedKey) (vs : List Value) (n : Nat) (s : Shared), NestedAll s.heap ks vs → ∀ v ∈ vs, Ask P w s (hashByValue n v)
  | [], _, n, s, x, v, hv => by cases x; cases hv
  | k :: ks, _, n, s, x, v, hv => by
    cases x with
    | cons x1 x2 =>
      rcases List.mem_cons.mp hv with e | hv
      · rw [e]; exact hby_key k _ n s x1
      · exact hby_keys ks _ n s x2 v hv
end
/-- the tuple at a is the key k, not too deep -/
def IsN (h : Heap) (k : NestedKey) (a : Addr) : Prop := NestedIs h k (.ref a) ∧ k.depth ≤ 8
theorem IsN.up {h h' : Heap} {k : NestedKey} {a : Addr} (x : IsN h k a) (q : ∀ b o vs n, h.get? b = some o → o.data = .seq vs n → h'.get? b = some o) : IsN h' k a := ⟨x.1.at q, x.2⟩
theorem IsN.off {h h' : Heap} {k : NestedKey} {a d : Addr} {o : Obj} {es : Array (Int × Value)} {ep : Nat} {t : SetTable} (x : IsN h k a) (g : h.get? d = some o) (e : o.data = .set es ep t) (sb : Heap.SameBut d h h') : IsN h' k a := by
  refine x.up fun b ob vs n hb hc => (sb.2 b fun z => ?_).trans hb
  subst z
  rw [g] at hb
  cases hb
  rw [e] at hc
  cases hc
end

/-! ### the set by its rows -/
section
variable {P : Program} {w : World} {A : Around} {E : Value → Shared → Prop} {s : Shared}
def rowsK (w : World) (L : List (Addr × NestedKey)) : List (Int × Value) := L.map fun p => (p.2.hash w, Value.ref p.1)
/-- the set at a: its members L, as its table has them -/
structure SetK (w : World) (h : Heap) (a : Addr) (L : List (Addr × NestedKey)) (es : Array (Int × Value)) (ep : Nat) (t : SetTable) : Prop where
  ob : ∃ o, h.get? a = some o ∧ o.ExactSet ∧ o.data = .set es ep t
  rows : es.toList = rowsK w L
  tab : TabOk t (L.map fun p => p.2.hash w)
  nd : (L.map (·.2)).Nodup
  isn : ∀ p ∈ L, IsN h p.2 p.1
  room : L.length * 5 < t.mask * 3
  few : L.length < 64
variable {a : Addr} {L : List (Addr × NestedKey)} {es : Array (Int × Value)} {ep : Nat} {t : SetTable}
theorem rowsK_size (r : es.toList = rowsK w L) : es.size = L.length := by
  rw [← Array.length_toList, r]
  exact List.length_map ..
theorem fits_of (e1 : t.place.size = es.size) (e2 : t.dummies = #[]) (e3 : es.size ≤ t.mask) : t.fits es.size = true := by
  unfold SetTable.fits SetTable.fill
  rw [e2, Bool.and_eq_true, beq_iff_eq, decide_eq_true_eq]
  exact ⟨e1, by show t.place.size + 0 ≤ t.mask; omega⟩
theorem SetK.size (R : SetK w s.heap a L es ep t) : es.size = L.length := rowsK_size R.rows
theorem SetK.sz (R : SetK w s.heap a L es ep t) : t.place.size = L.length := by
  have := R.tab.sz
  rwa [List.length_map] at this
theorem SetK.fits (R : SetK w s.heap a L es ep t) : t.fits es.size = true := fits_of (by rw [R.size, R.sz]) R.tab.dm (by have := R.room; rw [R.size]; omega)
theorem SetK.row (R : SetK w s.heap a L es ep t) {i : Nat} {p : Addr × NestedKey} (h : L[i]? = some p) : es[i]? = some (p.2.hash w, Value.ref p.1) := by
  have e : es.toList[i]? = some (p.2.hash w, Value.ref p.1) := by
    rw [R.rows, rowsK, List.getElem?_map, h]
    rfl
  rwa [Array.getElem?_toList] at e
end
end RP

/-! RpAQ: set(xs), len(set(xs)) of nested tuples, by values. -/
namespace RP
open PySem L2 PySem.Spec PyProof.Rows
section
variable {pr : Program} {wo : World}
theorem SetK.keep {w : World} {h h' : Heap} {a : Addr} {L : List (Addr × NestedKey)} {es : Array (Int × Value)} {ep : Nat} {t : SetTable} (R : SetK w h a L es ep t) (g : ∀ o, h.get? a = some o → h'.get? a = some o) (i : ∀ p ∈ L, IsN h' p.2 p.1) : SetK w h' a L es ep t := by
  obtain ⟨o, ho, rest⟩ := R.ob
  exact ⟨⟨o, g o ho, rest⟩, R.rows, R.tab, R.nd, i, R.room, R.few⟩
end
/-! ### values as keys -/
mutual
def nkOf : W → Option NestedKey
  | .non => some .none
  | .bl b => some (.num (if b = true then 1 else 0))
  | .int i => some (.num i)
  | .str x => some (.text x)
  | .tup ws => (nksOf ws).map .tup
  | .ref _ => none
  | .adr _ => none
  | .ty _ => none
  | .lam _ _ _ => none
def nksOf : List W → Option (List NestedKey)
  | [] => some []
  | w :: ws => match nkOf w, nksOf ws with
    | some k, some ks => some (k :: ks)
    | _, _ => none
end
section
variable {X : Cx} {pins : List (Addr × Obj)} {σ : L2.St} {H : Hp} {s : Shared} {ad : List Addr}
mutual
theorem nk_is (I : Inv X pins σ H s) : ∀ (w : W) (v : V) (u : Value) (k : NestedKey), nkOf w = some k → RelW X.K ad H w v → RelV v u → NestedIs s.heap k u
  | .non, _, _, _, e, r, q => by unfold nkOf at e; cases e; cases r; cases q; exact .none
  | .bl b, _, _, _, e, r, q => by unfold nkOf at e; cases e; cases r; cases q; exact .bool rfl
  | .int i, _, _, _, e, r, q => by unfold nkOf at e; cases e; cases r; obtain ⟨t, rfl⟩ := q; exact .int _ _
  | .str x, _, _, _, e, r, q => by unfold nkOf at e; cases e; cases r; obtain ⟨t, rfl⟩ := q; exact .text _ _
  | .tup ws, _, _, _, e, r, q => by
    unfold nkOf at e
    cases r with
    | tup sq rs =>
      cases q
      cases z : nksOf ws with
      | none => rw [z] at e; cases e
      | some ks =>
        rw [z] at e
        cases e
        obtain ⟨its, rv, ⟨o, ho, hc, n, hd⟩, _⟩ := I.tuple sq
        exact .tup ho hc hd (by simpa using nks_is I ws _ _ ks z rs rv)
  | .ref _, _, _, _, e, _, _ => by unfold nkOf at e; cases e
  | .adr _, _, _, _, e, _, _ => by unfold nkOf at e; cases e
  | .ty _, _, _, _, e, _, _ => by unfold nkOf at e; cases e
  | .lam _ _ _, _, _, _, e, _, _ => by unfold nkOf at e; cases e
theorem nks_is (I : Inv X pins σ H s) : ∀ (ws : List W) (vs : List V) (us : List Value) (ks : List NestedKey), nksOf ws = some ks → RelWs X.K ad H ws vs → Vals vs us → NestedAll s.heap ks us
  | [], _, _, _, e, r, q => by unfold nksOf at e; cases e; cases r; cases q; exact .nil
  | w :: ws, _, _, _, e, r, q => by
    unfold nksOf at e
    cases r with
    | cons r rr =>
      cases q with
      | cons q qq =>
        cases e1 : nkOf w with
        | none => rw [e1] at e; cases e
        | some k =>
          cases e2 : nksOf ws with
          | none => rw [e1, e2] at e; cases e
          | some ks =>
            rw [e1, e2] at e
            cases e
            exact .cons (nk_is I w _ _ k e1 r q) (nks_is I ws _ _ ks e2 rr qq)
end
end
section
variable {m : Mo} {T : Tab} {k : Nat} {c t : Bool} {sc : Scope} {N : List Str} {ow : Ow} {a : Expr} {fa : Slots → M W}
end
end RP

/-! RpAR: sorted(set(xs)) of whole numbers. -/
namespace RP
open PySem L2 PySem.Spec PyProof.Rows
section
variable {pr : Program} {wo : World}
end
section
variable {m : Mo} {T : Tab} {k : Nat} {c t : Bool} {sc : Scope} {N : List Str} {ow : Ow} {a : Expr} {fa : Slots → M W}
end
end RP

/-! RpAS: more of what raises nothing; counting what is met. -/
namespace RP
open PySem L2
theorem CalmM.bm {ty : String} {fo : M W} {fs : M (List W)} {g : W → List W → M W} (ho : CalmM fo) (hs : CalmM fs) (hg : ∀ w ws, CalmM (g w ws)) : CalmM (bmM ty fo fs g) := ho.bd fun w S x S' e => by
  split at e
  · exact (hs.bd fun ws => hg w ws) S x S' e
  · cases e
theorem CalmM.join (w : W) (ws : List W) : CalmM (joinM w ws) := fun S x S' e => by
  unfold joinM at e
  split at e
  · split at e
    · split at e
      · split at e <;> cases e
      · cases e
    · cases e
  · cases e
theorem CalmM.lc (v : View) (g : W → Slots → M Slots) (test : Slots → M Bool) (elt : Slots → M W) (sl0 : Slots) : CalmM (lcV v g test elt sl0) := fun S x S' e => by
  unfold lcV at e
  split at e
  · cases e
  · split at e <;> cases e
theorem CalmM.bdI {m : M View} {k : View → M W} (h : CalmM m) (hk : ∀ a, CalmM (k a)) : CalmM (bdI m k) := fun S x S' e => by
  unfold RP.bdI at e
  split at e
  · exact hk _ _ _ _ e
  · rename_i q; exact h _ _ _ q
  · cases e
theorem CalmM.list (ws : List W) : CalmM (listM ws) := fun S x S' e => by
  unfold listM at e
  split at e
  · split at e <;> cases e
  · cases e
  · split at e <;> cases e
  · cases e
section
variable {K : Type} [DecidableEq K] [BEq K] [LawfulBEq K]
end
end RP

/-! RpAT: raise C("..") of a class without an own __init__; try .. except C: .. -/
namespace RP
open PySem L2
section
variable {m : Mo} {T : Tab} {k : Nat} {c t : Bool} {sc : Scope} {N : List Str} {ow : Ow}
/-- a class whose instances are raised -/
structure XcOk (m : Mo) (T : Tab) (cc : Nat) (x : Str) : Prop where
  ex : PySem.W.excIn m.K (T.cls cc) [.type "ValueError", .type "Exception", .type "BaseException", .type "object"] "ValueError.__new__" = true
  mg : m.mg x = some (.ref (T.cls cc))
  kp : PySem.W.keepIn m.K (.ref (T.cls cc)) = true
  sb : PySem.W.subIn m.K (.ref (T.cls cc)) (.type "BaseException") = some true
  ty : PySem.W.typeIn m.K (.ref (T.cls cc)) = some (.type "type")
end
end RP

/-! RpAU: sorted(set(xs)) of texts. -/
namespace RP
open PySem L2 PySem.Spec PyProof.Rows
/-! ### the order of texts -/
def ltT (x y : Str) : Bool := ltCps x.cps.toList y.cps.toList
theorem ltT_iff {x y : Str} : ltT x y = true ↔ x.cps.toList < y.cps.toList := by unfold ltT; rw [ltCps_eq, decide_eq_true_eq]
theorem ltT_trans {x y z : Str} (a : ltT x y = true) (b : ltT y z = true) : ltT x z = true := ltT_iff.mpr (List.lt_trans (ltT_iff.mp a) (ltT_iff.mp b))
theorem ltT_irr (x : Str) : ltT x x = false := by
  cases h : ltT x x with
  | false => rfl
  | true => exact absurd (ltT_iff.mp h) (List.lt_irrefl _)
theorem ltT_anti {x y : Str} (a : ltT x y = false) (b : ltT y x = false) : x = y := by
  have a' : ¬ x.cps.toList < y.cps.toList := fun h => by rw [ltT_iff.mpr h] at a; cases a
  have b' : ¬ y.cps.toList < x.cps.toList := fun h => by rw [ltT_iff.mpr h] at b; cases b
  have e := List.le_antisymm (List.not_lt.mp b') (List.not_lt.mp a')
  cases x
  cases y
  simp only at e
  rw [Array.toList_inj.mp e]
/-- put in at its place, once -/
def insT (i : Str) : List Str → List Str
  | [] => [i]
  | j :: r => if ltT i j = true then i :: j :: r else if ltT j i = true then j :: insT i r else j :: r
/-- the texts, each once, in order -/
def sortT : List Str → List Str
  | [] => []
  | i :: r => insT i (sortT r)
theorem insT_mem {i k : Str} : ∀ {l : List Str}, k ∈ insT i l ↔ k = i ∨ k ∈ l
  | [] => by simp [insT]
  | j :: r => by
    unfold insT
    split
    · simp
    · split
      · rw [List.mem_cons, insT_mem, List.mem_cons]
        constructor
        · rintro (h | h | h)
          · exact .inr (.inl h)
          · exact .inl h
          · exact .inr (.inr h)
        · rintro (h | h | h)
          · exact .inr (.inl h)
          · exact .inl h
          · exact .inr (.inr h)
      · rename_i h1 h2
        have e : i = j := ltT_anti (by simpa using h1) (by simpa using h2)
        subst e
        simp
theorem sortT_mem {k : Str} : ∀ {l : List Str}, k ∈ sortT l ↔ k ∈ l
  | [] => Iff.rfl
  | i :: r => by rw [sortT, insT_mem, sortT_mem, List.mem_cons]
theorem insT_up {i : Str} : ∀ {l : List Str}, l.Pairwise (fun a b => ltT a b = true) → (insT i l).Pairwise (fun a b => ltT a b = true)
  | [], _ => by simp [insT]
  | j :: r, h => by
    have h1 := List.pairwise_cons.mp h
    unfold insT
    split
    · rename_i hi
      refine List.pairwise_cons.mpr ⟨fun x hx => ?_, h⟩
      rcases List.mem_cons.mp hx with e | hx
      · rw [e]; exact hi
      · exact ltT_trans hi (h1.1 x hx)
    · split
      · rename_i hj
        refine List.pairwise_cons.mpr ⟨fun x hx => ?_, insT_up h1.2⟩
        rcases insT_mem.mp hx with e | hx
        · rw [e]; exact hj
        · exact h1.1 x hx
      · exact h
theorem sortT_up : ∀ l : List Str, (sortT l).Pairwise (fun a b => ltT a b = true)
  | [] => List.Pairwise.nil
  | i :: r => insT_up (sortT_up r)
theorem upT_same : ∀ {a b : List Str}, a.Pairwise (fun a b => ltT a b = true) → b.Pairwise (fun a b => ltT a b = true) → (∀ k, k ∈ a ↔ k ∈ b) → a = b
  | [], [], _, _, _ => rfl
  | [], y :: b, _, _, h => by have := (h y).mpr (by simp); cases this
  | x :: a, [], _, _, h => by have := (h x).mp (by simp); cases this
  | x :: a, y :: b, ha, hb, h => by
    have a1 := List.pairwise_cons.mp ha
    have b1 := List.pairwise_cons.mp hb
    have no : ∀ {u v : Str}, ltT u v = true → ltT v u = true → False := fun p q => by
      have := ltT_trans p q
      rw [ltT_irr] at this
      cases this
    have e : x = y := by
      have h1 := (h x).mp (by simp)
      have h2 := (h y).mpr (by simp)
      rcases List.mem_cons.mp h1 with e | h1
      · exact e
      · rcases List.mem_cons.mp h2 with e | h2
        · exact e.symm
        · exact (no (b1.1 x h1) (a1.1 y h2)).elim
    subst e
    congr 1
    refine upT_same a1.2 b1.2 fun k => ⟨fun hk => ?_, fun hk => ?_⟩
    · rcases List.mem_cons.mp ((h k).mp (by simp [hk])) with e | q
      · have := a1.1 k hk; rw [e, ltT_irr] at this; cases this
      · exact q
    · rcases List.mem_cons.mp ((h k).mpr (by simp [hk])) with e | q
      · have := b1.1 k hk; rw [e, ltT_irr] at this; cases this
      · exact q
theorem lt_of_rising : ∀ (l : List Str) (p : Str), risingS p l = true → (p :: l).Nodup → (p :: l).Pairwise (fun a b => ltT a b = true)
  | [], p, _, _ => by simp
  | x :: r, p, h, nd => by
    have h0 : (!ltT x p && risingS x r) = true := h
    rw [Bool.and_eq_true] at h0
    have nd1 := List.nodup_cons.mp nd
    have ih := lt_of_rising r x h0.2 nd1.2
    have hpx : ltT p x = true := by
      cases q : ltT p x with
      | true => rfl
      | false =>
        have e := ltT_anti q (by simpa using h0.1)
        exact absurd (by simp [e]) nd1.1
    refine List.pairwise_cons.mpr ⟨fun y hy => ?_, ih⟩
    rcases List.mem_cons.mp hy with e | hy
    · rw [e]; exact hpx
    · exact ltT_trans hpx ((List.pairwise_cons.mp ih).1 y hy)
theorem lt_of_sorted {l : List Str} (h : sortedS l = true) (nd : l.Nodup) : l.Pairwise (fun a b => ltT a b = true) := by
  cases l with
  | nil => exact .nil
  | cons p l => exact lt_of_rising l p h nd
/-! ### a set of texts -/
def txK (e : Int × Value) : Str := strOf e.2
def TxE (w : World) (e : Int × Value) : Prop := ∃ k tk, e.2 = Value.str k tk ∧ e.1 = hashStr w k
structure SetX (w : World) (h : Heap) (a : Addr) (ks : List Str) : Prop where
  ex : ∃ o es ep t, h.get? a = some o ∧ o.ExactSet ∧ o.data = .set es ep t ∧ (∀ e ∈ es.toList, TxE w e) ∧ (es.toList.map txK).Perm ks ∧ es.size < scanBound ∧ t.fits es.size = true ∧ Ris t.place.toList ∧ (w.params.followText "set-order" = true ∨ t.led = true)
section
variable {pr : Program} {wo : World} {A : Around} {E : Value → Shared → Prop} {s : Shared} {a : Addr} {ks : List Str}
theorem SetX.at {h h' : Heap} (R : SetX wo h a ks) (k : ∀ o, h.get? a = some o → h'.get? a = some o) : SetX wo h' a ks := by
  obtain ⟨o, es, ep, t, ho, r⟩ := R.ex
  exact ⟨o, es, ep, t, k o ho, r⟩
theorem tx_elems {l : List (Int × Value)} (g : ∀ e ∈ l, TxE wo e) : ElemsOf (PySem.strKind pr wo) l := fun e he => by
  obtain ⟨k, tk, h1, h2⟩ := g e he
  exact ⟨⟨k, by rw [h1]; exact strKind_is pr wo k tk, h2⟩, by rw [h1] <;> rfl⟩
theorem tx_is {e : Int × Value} (g : TxE wo e) (k : Str) : (PySem.strKind pr wo).is k e.2 = true ↔ txK e = k := by
  obtain ⟨k0, tk, h1, _⟩ := g
  unfold txK
  rw [h1]
  constructor
  · intro h
    have h' : Value.isStrOf k (Value.str k0 tk) = true := h
    obtain ⟨t, e⟩ := Value.isStrOf_shape h'
    injection e
  · intro h
    have h' : k0 = k := h
    subst h'
    exact strKind_is pr wo k0 tk
theorem tx_put {g : Bool → Sem Unit} (hg : ∀ (b : Bool) (s₁ : Shared) (Q' : Unit → Shared → Prop), Q' () s₁ → wpAny (model pr wo) A (g b) Q' E s₁)
    {o : Obj} {es : Array (Int × Value)} {ep : Nat} {t : SetTable} (ho : s.heap.get? a = some o) (hex : o.ExactSet) (hd : o.data = .set es ep t)
    {es1 : Array (Int × Value)} {t2 : SetTable} (g1 : ∀ e ∈ es1.toList, TxE wo e) (m1 : (es1.toList.map txK).Perm ks) (hb1 : es1.size < scanBound) (hf2 : t2.fits es1.size = true) (hr : Ris t2.place.toList) (hl : wo.params.followText "set-order" = true ∨ t2.led = true)
    {wasDummy : Bool} {R : Option Bool → Shared → Prop} (hR : ∀ h', Heap.SameBut a s.heap h' → SetX wo h' a ks → R (some true) { s with heap := h' }) :
    wpAny (model pr wo) A (do
        storeSet a es1 t2
        if (!wasDummy && t2.tooFull) = true then do
            g (relayAll t2 es1 (SetTable.grown es1.size)).2.2
            storeSet a (relayAll t2 es1 (SetTable.grown es1.size)).1 (relayAll t2 es1 (SetTable.grown es1.size)).2.1
            pure (some true)
          else pure (some true)) R E s := by
  have o1 := store_at (es' := es1) (t' := t2) ho hd
  have b1 := Heap.SameBut.update s.heap a (Obj.putSet es1 t2)
  refine wpAny_bind (wpAny_storeSet_of ho hd ?_ (fits_of_scanBound hb1))
  by_cases hc : (!wasDummy && t2.tooFull) = true
  · rw [if_pos hc]
    have pm := relayAll_perm t2 es1 (SetTable.grown es1.size)
    have f3 := relayAll_fits t2 es1 (SetTable.grown es1.size)
    have r3 := relayAll_ris t2 es1 (SetTable.grown es1.size)
    have l3 := relayAll_led t2 es1 (SetTable.grown es1.size)
    revert pm f3 r3 l3
    obtain ⟨es2, t3, gave⟩ := relayAll t2 es1 (SetTable.grown es1.size)
    intro pm f3 r3 l3
    have hz : es2.size = es1.size := by
      have := pm.length_eq
      simpa using this
    have hb2 : es2.size < scanBound := by rw [hz]; exact hb1
    refine wpAny_bind (hg _ _ _ ?_)
    refine wpAny_bind (wpAny_storeSet_of o1 rfl ?_ (fits_of_scanBound hb2))
    have o2 := store_at (es' := es2) (t' := t3) o1 rfl
    refine wpAny_pure (hR _ (b1.trans (Heap.SameBut.update _ a _)) ⟨_, es2, _, t3, o2, hex, rfl, fun e he => g1 e (pm.mem_iff.mp he), (pm.map txK).trans m1, hb2, f3, r3, hl.imp id fun z => ?_⟩)
    exact l3.trans z
  · rw [if_neg hc]
    exact wpAny_pure (hR _ b1 ⟨_, es1, _, t2, o1, hex, rfl, g1, m1, hb1, hf2, hr, hl⟩)
theorem tx_add {k : Str} {tk : Tok} {Q : Bool → Shared → Prop} (R : SetX wo s.heap a ks) (room : ks.length + 1 < scanBound)
    (hQ : ∀ h' b, Heap.SameBut a s.heap h' → SetX wo h' a (if k ∈ ks then ks else ks ++ [k]) → Q b { s with heap := h' }) :
    wpAny (model pr wo) A (setAddHashed a (.str k tk) ((PySem.strKind pr wo).hash k)) Q E s := by
  obtain ⟨o, es, ep, t, ho, hex, hd, g, pm0, hb, hf, hr, hl⟩ := R.ex
  have hkey : (PySem.strKind pr wo).is k (.str k tk) = true := strKind_is pr wo k tk
  have hsc : (Value.str k tk).scannable = true := rfl
  have hel : ElemsOf (PySem.strKind pr wo) es.toList := tx_elems g
  have hmem : k ∈ ks ↔ ∃ e ∈ es.toList, (PySem.strKind pr wo).is k e.2 = true := by
    rw [← pm0.mem_iff, List.mem_map]
    exact ⟨fun ⟨e, he, q⟩ => ⟨e, he, (tx_is (g e he) k).2 q⟩, fun ⟨e, he, q⟩ => ⟨e, he, (tx_is (g e he) k).1 q⟩⟩
  unfold setAddHashed setAddHashedIn
  refine wpAny_holding (wpAny_bind (wpAny_setState_of ho hd hf ?_))
  dsimp only
  rw [byScan_of hsc hb hel]
  simp only [↓reduceIte]
  unfold setAddByScan
  refine wpAny_bind ?_
  refine wpAny_bind (wpAny_rule ?_)
  refine wpAny_bind (wpAny_setScan_of hkey ho hd hf hel ?_)
  cases hfi : List.findIdx? (fun e => (PySem.strKind pr wo).is k e.2) es.toList with
  | some j =>
    dsimp only
    obtain ⟨hj, pj, _⟩ := List.findIdx?_eq_some_iff_getElem.mp hfi
    have hin : k ∈ ks := hmem.mpr ⟨_, List.getElem_mem hj, pj⟩
    refine wpAny_pure (wpAny_pure ?_)
    exact hQ s.heap _ (Heap.SameBut.refl a s.heap) (by rw [if_pos hin]; exact R)
  | none =>
    dsimp only
    have hnk : k ∉ ks := fun z => by
      obtain ⟨e, he, q⟩ := hmem.mp z
      have c := List.findIdx?_eq_none_iff.mp hfi e he
      rw [q] at c
      cases c
    have hgw : ∀ (b : Bool) {s₁ : Shared} {Q' : Unit → Shared → Prop}, Q' () s₁ → wpAny (model pr wo) A (match b with | true => rule "set.scan.the-table-gave-way" | false => pure ()) Q' E s₁ :=
      fun b s₁ Q' q => by cases b <;> first | exact wpAny_pure q | exact wpAny_rule q
    have pm := layNew_perm t es ((PySem.strKind pr wo).hash k) (.str k tk)
    have hf1 := layNew_fits t es ((PySem.strKind pr wo).hash k) (.str k tk)
    have hr1 := layNew_ris t es ((PySem.strKind pr wo).hash k) (.str k tk) hr
    have hl1 := layNew_led t es ((PySem.strKind pr wo).hash k) (.str k tk)
    generalize layNew t es ((PySem.strKind pr wo).hash k) (.str k tk) = Z at pm hf1 hr1 hl1 ⊢
    obtain ⟨es1, t1, wasDummy, gave⟩ := Z
    dsimp only at pm hf1 hr1 hl1 ⊢
    rw [Array.toList_push] at pm
    have g1 : ∀ e ∈ es1.toList, TxE wo e := fun e he => by
      rcases List.mem_append.mp (pm.mem_iff.mp he) with z | z
      · exact g e z
      · rw [List.mem_singleton.mp z]; exact ⟨k, tk, rfl, rfl⟩
    have m1 : (es1.toList.map txK).Perm (ks ++ [k]) := by
      have := pm.map txK
      rw [List.map_append] at this
      exact this.trans (pm0.append_right _)
    have hsz : es1.size = ks.length + 1 := by
      have := m1.length_eq
      simpa using this
    have hb1 : es1.size < scanBound := by rw [hsz]; exact room
    have hled : wo.params.followText "set-order" = true ∨ t1.led = true := hl.imp id fun z => by rw [hl1]; exact z
    have fin : ∀ h', Heap.SameBut a s.heap h' → SetX wo h' a (ks ++ [k]) → Q true { s with heap := h' } := fun h' sb r => hQ h' true sb (by rw [if_neg hnk]; exact r)
    refine wpAny_bind (hgw _ ?_)
    split
    · refine wpAny_bind ?_
      rw [hashByValue_scannable 8 hsc]
      refine wpAny_pure ?_
      refine tx_put ?_ ho hex hd g1 m1 hb1 ?_ ?_ ?_ ?_
      · intro b s₁ Q' q; cases b <;> first | exact wpAny_pure q | exact wpAny_rule q
      · first | (split <;> first | exact hf1 | exact SetTable.fits_plain_off hf1) | exact hf1
      · first | (split <;> exact hr1) | exact hr1
      · first | (split <;> exact hled) | exact hled
      · intro h' sb r; dsimp only; exact wpAny_pure (fin h' sb r)
    · refine wpAny_bind (wpAny_pure ?_)
      simp only [↓reduceIte]
      refine tx_put ?_ ho hex hd g1 m1 hb1 hf1 hr1 hled ?_
      · intro b s₁ Q' q; cases b <;> first | exact wpAny_pure q | exact wpAny_rule q
      · intro h' sb r; dsimp only; exact wpAny_pure (fin h' sb r)
end
/-- once each, in the order of the first ones -/
def addT (l : List Str) (k : Str) : List Str := if k ∈ l then l else l ++ [k]
def onceT (xs : List Str) : List Str := xs.foldl addT []
theorem onceT_snoc (xs : List Str) (k : Str) : onceT (xs ++ [k]) = addT (onceT xs) k := by unfold onceT; rw [List.foldl_append]; rfl
theorem onceT_ok : ∀ n (xs : List Str), xs.length = n → (onceT xs).Nodup ∧ (∀ k, k ∈ onceT xs ↔ k ∈ xs) ∧ (onceT xs).length ≤ xs.length
  | 0, xs, h => by
    have := List.length_eq_zero_iff.mp h
    subst this
    exact ⟨List.nodup_nil, fun _ => Iff.rfl, Nat.le_refl _⟩
  | n + 1, xs, h => by
    have hne : xs ≠ [] := fun e => by rw [e] at h; cases h
    obtain ⟨ys, y, rfl⟩ : ∃ ys y, xs = ys ++ [y] := ⟨xs.dropLast, xs.getLast hne, (List.dropLast_concat_getLast hne).symm⟩
    obtain ⟨i1, i2, i3⟩ := onceT_ok n ys (by simpa using h)
    rw [onceT_snoc]
    unfold addT
    split
    · rename_i hk
      refine ⟨i1, fun k => ?_, by simp; omega⟩
      rw [i2, List.mem_append, List.mem_singleton]
      exact ⟨.inl, fun z => z.elim id fun e => by rw [e]; exact (i2 _).mp hk⟩
    · rename_i hk
      refine ⟨?_, fun k => ?_, by simp; omega⟩
      · refine List.nodup_append.mpr ⟨i1, by simp, fun a ha b hb => ?_⟩
        rw [List.mem_singleton.mp hb]
        exact fun e => hk (e ▸ ha)
      · rw [List.mem_append, List.mem_append, i2]
theorem onceT_perm (xs : List Str) : (onceT xs).Perm (sortT xs) := by
  obtain ⟨h1, h2, _⟩ := onceT_ok _ xs rfl
  have nd : (sortT xs).Nodup := (sortT_up xs).imp fun h e => by rw [e, ltT_irr] at h; cases h
  exact (List.perm_ext_iff_of_nodup h1 nd).mpr fun k => by rw [h2, sortT_mem]
section
variable {pr : Program} {wo : World}
theorem setLoopT {A : Around} {R : Result → Shared → Prop} {it : Addr} {fp wr : List Addr} {G : Array GenState → Array GenState → Prop} {n : Nat} {P : Nat → Value → Prop} {St : Nat → Shared → Prop} (Wk : WalksS pr wo A.in1 it fp wr G n P St) {a : Addr} (nf : a ∉ fp)
    (xs : List Str) (hn : n = xs.length) (hb : xs.length + 1 < scanBound) (hv : ∀ i v, P i v → ∃ k t, xs[i]? = some k ∧ v = .str k t) :
    ∀ (m i : Nat) (s : Shared), n = i + m → St i s → SetX wo s.heap a (onceT (xs.take i)) →
      (∀ s2, Moved (a :: wr) G s s2 → SetX wo s2.heap a (onceT xs) → R (.ok (.ret .none)) s2) →
      codeAny (model pr wo) A (.builtin "set.update.loop" ⟨[.ref a, .ref it], []⟩) R s := by
  have nw : a ∉ wr := fun z => nf (Wk.sub _ z)
  have more : ∀ b ∈ wr, b ∈ a :: wr := fun b z => .tail _ z
  intro m
  induction m with
  | zero =>
    intro i s hi st hs fin
    apply codeAny_builtin F.entry_set_update_loop
    rw [Around.under_plainId F.plain_set_update_loop]
    have e : n = i := hi
    subst e
    show wpAny _ A.in1 (pyNext (.ref it) >>= _) _ _ s
    refine wpAny_bind (Wk.done s _ _ st fun s2 mv => ?_)
    show wpAny _ A.in1 (PySem.ret Value.none) _ _ s2
    rw [hn, List.take_length] at hs
    exact wpAny_pure (fin s2 (mv.mono more) (hs.at fun o e => mv.heap a o nw e))
  | succ m ih =>
    intro i s hi st hs fin
    apply codeAny_builtin F.entry_set_update_loop
    rw [Around.under_plainId F.plain_set_update_loop]
    show wpAny _ A.in1 (pyNext (.ref it) >>= _) _ _ s
    refine wpAny_bind (Wk.item i s _ _ (by omega) st fun v s2 hP st2 mv => ?_)
    obtain ⟨z, t, hz, rfl⟩ := hv i v hP
    have hs2 : SetX wo s2.heap a (onceT (xs.take i)) := hs.at fun o e => mv.heap a o nw e
    have hlen := (onceT_ok _ (xs.take i) rfl).2.2
    rw [List.length_take] at hlen
    have nxt : addT (onceT (xs.take i)) z = onceT (xs.take (i + 1)) := by
      rw [← onceT_snoc, List.take_add_one, hz]
      rfl
    show wpAny _ A.in1 (holding [Value.str z t] (setAdd a (.str z t)) >>= _) _ _ s2
    refine wpAny_bind (wpAny_holding ?_)
    unfold setAdd
    refine wpAny_holding ?_
    refine wpAny_bind ((PySem.strKind pr wo).pyHash (k := z) (strKind_is _ _ _ _) ?_)
    refine tx_add (s := { s2 with toks := s2.toks + 1 }) hs2 (by omega) fun h3 b sb hs3 => ?_
    have same : ∀ b, b ≠ a → h3.get? b = s2.heap.get? b := fun b z => sb.2 b z
    refine wpAny_pure ⟨plainId_quiet F.plain_set_update_loop _, ih (i + 1) _ (by omega) (Wk.frame _ s2 _ _ st2 (Nat.le_succ _) fun b z o e => ?_) (by rw [← nxt]; exact hs3) fun s5 mv5 hs5 => fin s5 (Moved.trans Wk.gtrans ((mv.mono more).then_heap (Nat.le_succ _) fun b o z e => ?_) mv5) hs5⟩
    · rw [same b fun t => nf (t ▸ z)]; exact e
    · rw [same b fun t => z (t ▸ List.mem_cons_self)]; exact e
theorem setX_fresh {h : Heap} {a : Addr} (ho : h.get? a = some { cls := .type "set", dict := none, data := .set #[] 0 (.fresh 0 0 (!wo.params.followText "set-order")) }) : SetX wo h a [] :=
  ⟨_, #[], 0, _, ho, ⟨rfl, rfl, rfl⟩, rfl, (fun e he => by simp at he), List.Perm.refl _, (by decide), (by rfl), List.Pairwise.nil, by
    show _ ∨ (!wo.params.followText "set-order") = true
    cases wo.params.followText "set-order"
    · exact .inr rfl
    · exact .inl rfl⟩
set_option maxHeartbeats 4000000 in
theorem setOfTexts {A : Around} {E : Value → Shared → Prop} {s : Shared} {l : Addr} {its : Array Value} {Q : Value → Shared → Prop} (xs : List Str) (hh : A.handled = none) (hl : s.heap.IsList l its) (hi : StrsAre its.toList xs) (hb : xs.length + 1 < scanBound)
    (fin : ∀ (h2 : Heap) (tk : Nat), SetX wo h2 s.heap.objs.size (onceT xs) →
      (∀ b o, b < s.heap.objs.size → s.heap.get? b = some o → h2.get? b = some o) → Q (.ref s.heap.objs.size) { s with heap := h2, toks := tk }) :
    wpAny (model pr wo) A (call (.type "set") [.ref l]) Q E s := by
  have isz : its.size = xs.length := by
    have := hi.strs
    rw [← this, List.length_map, Array.length_toList]
  obtain ⟨c0, c1, mro⟩ := PySem.F.called_set.mro
  have x1 := PySem.F.called_set.made
  have x2 := PySem.F.called_set.sub
  apply wpAny_call
  apply codeAny_of_tree
  show wpAny _ _ (callAny (.type "set") _) _ _ _
  refine wpAny_pure ⟨Code.quiet_builtin _ (by decide +kernel), ?_⟩
  apply codeAny_builtin PySem.F.entry_type_call
  rw [Around.under_plain (weight_type_call_type "set" [.ref l] []) rfl]
  have x3 := PySem.F.called_set.notType
  have x4 := PySem.F.called_set.canCreate
  have x5 := PySem.F.typeCall_set_1 (.ref l)
  repeat (any_goals (first | assumption | wp_step))
  refine codeAny_mono (code_set_led1 (.ref l) (E := E) (Q₁ := fun ob z => ob = .ref s.heap.objs.size ∧ z = { s with heap := s.heap.push { cls := .type "set", dict := none, data := .set #[] 0 (.fresh 0 0 (!wo.params.followText "set-order")) } }) ⟨rfl, rfl⟩) fun r z hr => ?_
  cases r with
  | error e => exact hr
  | ok fl =>
    cases fl with
    | ret ob =>
      obtain ⟨rfl, rfl⟩ := hr
      generalize hne : ({ cls := .type "set", dict := none, data := .set #[] 0 (.fresh 0 0 (!wo.params.followText "set-order")) } : Obj) = new
      have gS : (s.heap.push new).get? s.heap.objs.size = some new := Heap.get?_push_size _ (by rw [← hne]; rfl)
      have gT : Shared.TypeIs { s with heap := s.heap.push new } (.ref s.heap.objs.size) "set" := ⟨_, gS, by rw [← hne]⟩
      have y1 := PySem.F.called_set.init.lookup
      have y2 := PySem.F.called_set.init.bind (.ref s.heap.objs.size)
      repeat (any_goals (first | assumption | wp_step))
      refine codeAny_mono (codeAny_call_builtin (R := wants (fun r z => r = .none ∧ ∃ h2 tk, z = { s with heap := h2, toks := tk } ∧ SetX wo h2 s.heap.objs.size (onceT xs) ∧
          (∀ b o, b < s.heap.objs.size → s.heap.get? b = some o → h2.get? b = some o)) E) PySem.F.called_set.init.plain PySem.F.entry_set_init (check_set_init_1 gT ?_)) fun r2 z2 hr2 => ?_
      · obtain ⟨⟨c, dd, dt, sl⟩, ho, hc, nn, hd⟩ := hl
        simp only at hc hd
        subst hc hd
        have ho1 : (s.heap.push new).get? l = some { cls := .type "list", dict := dd, data := .seq its nn, slots := sl } := Heap.get?_push_of_some _ ho
        have ll : l < s.heap.objs.size := Heap.lt_size ho
        have sz1 : (s.heap.push new).objs.size = s.heap.objs.size + 1 := Heap.size_push ..
        have ni : l ≠ (s.heap.push new).objs.size := by rw [sz1]; exact Nat.ne_of_lt (Nat.lt_succ_of_lt ll)
        have nf : s.heap.objs.size ∉ [(s.heap.push new).objs.size, l] := by
          simp only [List.mem_cons, List.not_mem_nil, or_false, not_or]
          exact ⟨by rw [sz1]; exact Nat.ne_of_lt (Nat.lt_succ_self _), Nat.ne_of_gt ll⟩
        have w1 := PySem.F.sub_list_set
        have w2 := PySem.F.sub_list_frozenset
        have w3 : (Value.type "list" == Value.type "dict") = false := by decide
        have hl1 : (s.heap.push new).IsList l its := ⟨_, ho1, rfl, nn, rfl⟩
        have vals : ∀ (i : Nat) (v : Value), its[i]? = some v → ∃ k t, xs[i]? = some k ∧ v = .str k t := fun i v hv => by
          have q : its.toList[i]? = some v := by rw [Array.getElem?_toList]; exact hv
          obtain ⟨x, t, e⟩ := hi.all v (List.mem_of_getElem? q)
          subst e
          refine ⟨x, t, ?_, rfl⟩
          rw [← hi.strs, List.getElem?_map, q]
          rfl
        subst hne
        unfold Builtin.«set.__init__» noKeywords Builtin.Frozenset.updateFrom
        generalize hpi : pyIter = PI
        wp_walk
        subst hpi
        apply wpAny_pyIter_list hl1
        apply wpAny_bind
        apply wpAny_runValue
        have h3 : A.in1.in1.in1.handled = none := by simp [hh]
        refine setLoopT (pr := pr) (wo := wo) ((Walks.list h3 _ l ni its).toS) nf xs isz hb vals its.size 0 _ (by omega) ⟨⟨_, Heap.get?_push_size _ rfl, rfl, rfl⟩, hl1.push _⟩ ?_ ?_
        · have g0 := Heap.get?_push_of_some { cls := .type "list_iterator", data := .fields #[.ref l, .int 0 0] } gS
          exact setX_fresh g0
        · intro s9 mv hs9
          obtain ⟨h9, g9, d9, t9, o9⟩ := s9
          have eg : g9 = s.gens := mv.gens
          have ed : d9 = s.drawn := mv.drawn
          have eo : o9 = s.os := mv.os
          subst eg ed eo
          refine wpAny_pure ?_
          show wpAny _ _ (PySem.ret Value.none) _ _ _
          have sz2 := sz1
          refine wpAny_pure ⟨rfl, h9, t9, rfl, hs9, fun b o hb e => mv.heap b o ?_ (Heap.get?_push_of_some _ (Heap.get?_push_of_some _ e))⟩
          simp only [List.mem_cons, List.not_mem_nil, or_false, not_or]
          exact ⟨Nat.ne_of_lt hb, by rw [sz2]; exact Nat.ne_of_lt (Nat.lt_succ_of_lt hb)⟩
      · cases r2 with
        | error e => exact hr2
        | ok f2 =>
          cases f2 with
          | ret r =>
            obtain ⟨rfl, h2, tk, rfl, k1, k2⟩ := hr2
            repeat (any_goals (first | assumption | wp_step))
            exact fin _ _ k1 k2
          | _ => exact hr2.elim
    | _ => exact hr.elim
theorem sorted_tx {A : Around} {E : Value → Shared → Prop} {s : Shared} {a : Addr} {xs : List Str} {Q : Value → Shared → Prop} (R : SetX wo s.heap a (onceT xs)) (hh : A.handled = none) (h64 : (sortT xs).length < 64)
    (hQ : ∀ s' p (out : Array Value) (c : Nat), (∀ b o, s.heap.get? b = some o → s'.heap.get? b = some o) → s'.gens = s.gens → s'.os = s.os → s.heap.objs.size ≤ p →
      s'.heap.get? p = some (seqObj "list" out c) → StrsAre out.toList (sortT xs) → Q (.ref p) s') :
    wpAny (model pr wo) A (call (.builtin "sorted") [.ref a]) Q E s := by
  obtain ⟨o, es, ep, t, ho, hex, hd, g, pm0, hb, hf, hr, hl⟩ := R.ex
  refine Calls.call_function_entry kind_sorted plain_sorted entry_sorted (args_sorted1 _) ?_
  unfold Builtin.«sorted»
  refine wpAny_bind (m := checkCount "sorted" 1 1 _) (wpAny_pure ?_)
  refine wpAny_bind (collect_set (A := A.in1) hh ⟨o, ho, hex.1, hd⟩ hf hb hr hl fun s1 vs k1 hz g1 o1 pm => ?_)
  have hS : StrsAre vs (vs.map strOf) := strsAre_map vs fun v hv => by
    obtain ⟨e, he, q⟩ := List.mem_map.mp (pm.mem_iff.mp hv)
    obtain ⟨k, tk, h1, _⟩ := g e he
    exact ⟨k, tk, by rw [← q]; exact h1⟩
  have pk : (vs.map strOf).Perm (sortT xs) := by
    have q := pm.map strOf
    rw [List.map_map] at q
    exact (q.trans pm0).trans (onceT_perm xs)
  have hvl : vs.length = (sortT xs).length := by rw [← pk.length_eq, List.length_map]
  refine wpAny_bind (wpAny_newList ?_ (by rw [hvl, sizeLine_eq]; omega))
  have hoL : (s1.heap.push (seqObj "list" vs.toArray 0)).get? s1.heap.objs.size = some (seqObj "list" vs.toArray 0) := Heap.get?_push_size _ rfl
  refine wpAny_bind (wpAny_holding (wpAny_call_entry slot_list_sort ⟨_, hoL, rfl⟩ entry_list_sort (list_sort_treeK strKind_oneLt hoL hS.keysOf (fun v₁ v₂ rest e => keyKind_strs (by rw [← e]; exact hS)) (by rw [hvl]; exact h64) fun st' hp hs => ⟨_, rfl, ?_⟩) (args_list_sort _)))
  obtain ⟨ys, g3, g4, g5⟩ := sorted_out_str hS hp hs
  have py := g4.trans pk
  have nd : ys.Nodup := py.nodup_iff.mpr ((sortT_up xs).imp fun h e => by rw [e, ltT_irr] at h; cases h)
  have ey : ys = sortT xs := upT_same (lt_of_sorted g5 nd) (sortT_up xs) fun k => py.mem_iff
  subst ey
  obtain ⟨c, hc⟩ := sortedHeap_at (vs := vs) (out := (arrOf st').map (·.2)) hoL
  refine wpAny_pure ⟨_, rfl, hQ _ s1.heap.objs.size _ c (fun b u e => ?_) g1 o1 hz hc g3⟩
  have q := k1 b u e
  have hlt := Heap.lt_size q
  show (sortedHeap (s1.heap.push (seqObj "list" vs.toArray 0)) s1.heap.objs.size vs _).get? b = some u
  rw [sortedHeap_old (Nat.ne_of_lt hlt) (by rw [size_push']; exact Nat.lt_succ_of_lt hlt)]
  exact Heap.get?_push_of_some _ q
end
def iSortSetT (K : PySem.W.Frag) (ta : TE) : TE := fun σ H Q => ta σ H fun x H1 => ∃ (l : Addr) (xs : List Str), x = .ref l ∧ SqL K H1 l (xs.map V.str) ∧ xs.length < 4000 ∧ (sortT xs).length < 64 ∧ ∀ p, H1 p = none → Q (.ref p) (upd H1 p (.lst ((sortT xs).map V.str)))
theorem pe_sortSetT {X : Cx} {a : Expr} {ta : TE} {p p2 q pos : Pos} (hg : Gl X "sorted") (hm : X.mg "sorted" = none) (hg2 : Gl X "set") (hm2 : X.mg "set" = none) (ha : PE X a ta) (hc : X.calm = true)
    (na : starEach [a] X.env = (false, eval a X.env) :: starEach [] X.env) : PE X (.Call (.Name "sorted" p) [.Call (.Name "set" p2) [a] [] q] [] pos) (iSortSetT X.K ta) := by
  refine ⟨fun pins s σ H Q I h => ?_⟩
  refine Call_ (ld_blt I hg hm (show bootBuiltins (Str.ofString "sorted") = some (.builtin "sorted") by decide +kernel) ?_)
  refine PyProof.Rows.callWith_builtin1 (PyProof.Rows.args_cons ?_ rfl) rfl rfl
  refine Call_ (ld_blt I hg2 hm2 boot_set ?_)
  refine PyProof.Rows.callWith_type1 (PyProof.Rows.args_cons (thn (ha.run pins s σ H _ I h) fun v st ⟨x, H1, I1, rx, qx⟩ => PyProof.Rows.args_nil ?_) na) na rfl
  obtain ⟨l, xs, rfl, hq, hl, h64, qx⟩ := qx
  cases rx
  obtain ⟨its, rv, pl, hz⟩ := I1.list hq
  refine setOfTexts xs (I1.ok.hd hc) pl.isList (by simpa using rv.strs) (by unfold scanBound; omega) fun h1 tk hS hk => ?_
  refine PyProof.Rows.args_nil ?_
  have I2 : Inv X pins σ H1 { st with heap := h1, toks := tk } := I1.kept fun b o e => hk b o (Heap.lt_size e) e
  refine sorted_tx (s := { st with heap := h1, toks := tk }) hS (I2.ok.hd hc) h64 fun s' p out c k g o hp hgt hi => ?_
  have hlen : ((sortT xs).map V.str).length ≤ sizeLine := by rw [List.length_map, sizeLine_eq]; omega
  have hn : H1 p = none := I2.hok.fresh hp
  have J : Inv X pins σ (upd H1 p (.lst ((sortT xs).map V.str))) { st with heap := s'.heap, gens := s'.gens, drawn := s'.drawn, toks := s'.toks } :=
    I2.call (s := { st with heap := h1, toks := tk }) (ch := []) (Un.laid k hp hn) (I2.hok.laid k hp ⟨hlen, out.toList, c, vals_of_strs hi, hgt⟩) (by rw [g]; exact I2.bare) (fun _ z => nomatch z)
  have e : s' = { st with heap := s'.heap, gens := s'.gens, drawn := s'.drawn, toks := s'.toks } := by
    cases s'
    cases st
    cases o
    rfl
  rw [e]
  exact ⟨.ref p, _, J, rfl, qx p hn⟩
section
variable {m : Mo} {T : Tab} {k : Nat} {c t : Bool} {sc : Scope} {N : List Str} {ow : Ow} {a : Expr} {fa : Slots → M W}
theorem relWs_strs {K : PySem.W.Frag} {ad : List Addr} {H : Hp} : ∀ xs : List Str, RelWs K ad H (xs.map W.str) (xs.map V.str)
  | [] => .nil
  | x :: xs => .cons (.str x) (relWs_strs xs)
def sortSetTM (w : W) : M W := fun S => match w with
  | .ref i => match seqOf S i with
    | some ws => match strsOf ws with
      | some xs => if xs.length < 4000 ∧ (sortT xs).length < 64 then .ok (.ref S.length) (S ++ [.lst ((sortT xs).map W.str)]) else .bad
      | none => .bad
    | none => .bad
  | _ => .bad
theorem e_sortsetT {p p2 q pos : Pos} (hc : c = true) (hl : m.mg "sorted" = none) (hs : m.mg "set" = none) (ha : SE m T k c t sc N ow a fa) (gl : sc.names.lookup ("sorted" : Str) = some .globalImplicit := by rfl) (gs : sc.names.lookup ("set" : Str) = some .globalImplicit := by rfl)
    (na : ∀ env, starEach [a] env = (false, eval a env) :: starEach [] env := by intro _; rfl) : SE m T k c t sc N ow (.Call (.Name "sorted" p) [.Call (.Name "set" p2) [a] [] q] [] pos) (fun sl => bd (fa sl) sortSetTM) := fun X g Wx tk => by
  have em : X.mg = m.mg := by rw [← g.mo]; rfl
  have ek : X.K = m.K := by rw [← g.mo]; rfl
  refine (pe_sortSetT (p := p) (p2 := p2) (q := q) (pos := pos) (gl_of g gl) (by rw [em]; exact hl) (gl_of g gs) (by rw [em]; exact hs) (ha X g Wx tk) (g.calm hc) (na _)).imp fun σ H Q h => ?_
  obtain ⟨ad, S, sl, R, L, h⟩ := h
  refine ⟨ad, S, sl, R, L, run_imp (run_bd h) ?_⟩
  rintro v H1 ⟨ad1, S1, w1, l1, R1, r1, h1⟩
  unfold sortSetTM at h1
  split at h1
  · split at h1
    · rename_i ws hx
      split at h1
      · rename_i xs hn
        split at h1
        · rename_i hz
          cases r1 with
          | ref e1 =>
          obtain ⟨vs, hq, r2⟩ := R1.seq e1 hx
          rw [strsOf_rel hn r2] at hq
          rw [ek]
          exact ⟨_, xs, rfl, hq, hz.1, hz.2, fun p hp => run_newlst R1 hp (relWs_strs _) h1⟩
        · exact h1.elim
      · exact h1.elim
    · exact h1.elim
  · exact h1.elim
end
end RP

/-! RpAV: x.count(sign), x.split(sep) of texts. -/
namespace RP
open PySem L2
section
variable {m : Mo} {T : Tab} {k : Nat} {c t : Bool} {sc : Scope} {N : List Str} {ow : Ow}
end
/-- a body that is never run -/
theorem ss_bad {m : Mo} {T : Tab} {k : Nat} {c t : Bool} {sc : Scope} {N : List Str} {ow : Ow} {st : List Stmt} : SSs m T k c t sc N ow st fun _ _ => .bad := fun X g Wx tk => ⟨fun pins s σ H D I h => by
  obtain ⟨ad, S, sl, R, L, h⟩ := h
  exact h.elim⟩
end RP

/-! RpAW: str(int). -/
namespace RP
open PySem L2
section
variable {m : Mo} {T : Tab} {k : Nat} {c t : Bool} {sc : Scope} {N : List Str} {ow : Ow}
def strM (ws : List W) : M W := fun S => match ws with
  | [.int i] => if i.natAbs < 1000000 then .ok (.str (toString i)) S else .bad
  | _ => .bad
theorem log_small {n : Nat} (h : n < 1000000) : n.log2 < 1920 := by
  by_cases e : n = 0
  · subst e; decide
  · exact (Nat.log2_lt e).mpr (Nat.lt_of_lt_of_le h (Nat.le_trans (show 1000000 ≤ 2 ^ 20 by decide) (Nat.pow_le_pow_right (by decide) (by decide))))
theorem n_str : SN m T k c t sc N ow (.type "str") strM := fun X g E pins s σ H xs us Q I r ⟨ad, S, ws, R, rw', h⟩ => by
  unfold strM at h
  split at h
  · rename_i i
    split at h
    · rename_i hz
      match xs, rw' with
      | [_], .cons (.int _) .nil =>
        exact call_str_int pins s σ H _ us Q I r ⟨i, rfl, log_small hz, run_ok R (.str _) h⟩
    · exact h.elim
  · exact h.elim
end
end RP

/-! isinstance of a caught exception that has a dict -/
namespace PySem.W
open PySem PySem.Spec PySem.Calls PyProof.Rows
section
variable {prog : Program} {w : World} {A : Around} {E : Value → Shared → Prop} {s : Shared} {K : Frag} {x D : Addr} {ox : Obj} {od : Option Obj}
theorem find_dataD {name : Str} {a g : Value} (hc : (clsIn K D).isSome = true) (ha : findIn K (.ref D) name = some (some a)) (hg : specialIn K a "__get__" = some (some g)) (ht : takesIn K a = some true) : findObj K D od name = some (.bind g a) := by
  obtain ⟨cd, hc⟩ := Option.isSome_iff_exists.mp hc
  unfold findObj
  simp only [hc, ha, hg, ht, Option.bind_some]
theorem classD {Q : Option Value → Shared → Prop} (hga : findIn K (.ref D) "__getattribute__" = some (some (.builtin "BaseException.__getattribute__"))) (hgt : findIn K (.ref D) "__getattr__" = some none) (hsub : subIn K (.ref D) (.type "BaseException") = some true)
    (hdct : hasDictIn K D = true) (ha : findIn K (.ref D) "__class__" = some (some (.builtin "object.__class__")))
    (hn : specialIn K (.builtin "object.__class__") "__get__" = some (some (.builtin "getset_descriptor.__get__"))) (htk : takesIn K (.builtin "object.__class__") = some true) (hm : mroIn K D (.type "object") = some true)
    (X : K.In s.heap) (I : InstAt s.heap x ox D od) (h : Q (some (.ref D)) { s with toks := s.toks + 1 }) : wpAny (model prog w) A (getAttr? (.ref x) "__class__") Q E s := by
  have hf : findObj K D od "__class__" = some (.bind (.builtin "getset_descriptor.__get__") (.builtin "object.__class__")) := find_dataD (by obtain ⟨cd, hc, _⟩ := any_some hdct; rw [hc]; rfl) ha hn htk
  obtain ⟨hp, g, d, t, os⟩ := s
  have L0 := I.type (M := model prog w)
  have L3 := looks_find (M := model prog w) X I hf
  have sub : Looks (model prog w) hp (isInstance (.ref x) (.type "BaseException")) true := L0.andThen (looks_subIn X hsub)
  have hx2 : (Value.builtin "BaseException.__getattribute__" == Value.builtin "object.__getattribute__") = false := by decide +kernel
  have hx1 : (onTheHeap (Value.ref D) && Value.builtin "BaseException.__getattribute__" == Value.builtin "object.__getattribute__") = false := by rw [hx2]; rfl
  unfold getAttr? getAttrBy? getAttrBy
  refine wpAny_bind (wpAny_mkText (wpAny_bind (wpAny_attempt (wpAny_holding (wpAny_bind (L0.at (wpAny_bind ((looks_findIn X hga).at ?_))))))))
  show wpAny _ _ (if (onTheHeap (Value.ref D) && Value.builtin "BaseException.__getattribute__" == Value.builtin "object.__getattribute__") = true then _ else _) _ _ _
  rw [hx1, if_neg Bool.false_ne_true]
  unfold getAttrByItsOwn hookBefore
  refine wpAny_bind ?_
  rw [if_pos (show onTheHeap (Value.ref D) = true from rfl)]
  refine (looks_findIn X hgt).at (wpAny_bind (wpAny_attempt (wpAny_holding ?_)))
  unfold callGetattribute
  rw [show (false && onTheHeap (Value.builtin "BaseException.__getattribute__")) = false from rfl, if_neg Bool.false_ne_true]
  unfold boundAndCalled
  rw [PySem.F.excAttr_ValueError.ga.bind (.ref x)]
  refine wpAny_bind (wpAny_pure ?_)
  refine wpAny_call (codeAny_call_builtin PySem.F.excAttr_ValueError.ga.plain PySem.F.entry_bexc_ga ?_)
  refine @check_slot (model prog w) _ _ ⟨hp, g, d, t + 1, os⟩ "BaseException.__getattribute__" "BaseException" "__getattribute__" (.ref x) [.str "__class__" t] [] _ (by decide +kernel) (by decide +kernel) sub (PySem.F.args_bexc_ga (.ref x) (.str "__class__" t)) ?_
  unfold Builtin.«object.__getattribute__»
  refine wpAny_bind (wpAny_of_eq (a := ((Value.ref x : Value), [Value.str "__class__" t])) (by first | rfl | (simp only [slotArgs]; rfl)) ?_)
  refine wpAny_bind (wpAny_pure (wpAny_bind (L0.at (wpAny_bind (L3.at ?_)))))
  show wpAny _ _ (holding [Value.builtin "object.__class__"] (call (.builtin "getset_descriptor.__get__") [.builtin "object.__class__", .ref x, .ref D]) >>= ret) _ _ _
  refine wpAny_bind (wpAny_holding (wpAny_call (class_get (s := ⟨hp, g, d, t + 1, os⟩) (ox := ox) (od := od) X I hm ?_)))
  refine wpAny_pure ?_
  show wpAny _ _ (handedOut (.ref D)) _ _ _
  rw [handedOut_of (v := .ref D) rfl]
  first
    | exact wpAny_pure (wpAny_pure h)
    | exact wpAny_pure h
    | exact wpAny_pure (wpAny_bind (wpAny_pure (wpAny_pure h)))
theorem kitx_excD (hga : findIn K (.ref D) "__getattribute__" = some (some (.builtin "BaseException.__getattribute__"))) (hgt : findIn K (.ref D) "__getattr__" = some none) (hsub : subIn K (.ref D) (.type "BaseException") = some true) (hdct : hasDictIn K D = true) (ha : findIn K (.ref D) "__class__" = some (some (.builtin "object.__class__")))
    (hn : specialIn K (.builtin "object.__class__") "__get__" = some (some (.builtin "getset_descriptor.__get__"))) (htk : takesIn K (.builtin "object.__class__") = some true) (hm : mroIn K D (.type "object") = some true) :
    KitX K (.ref x) (.ref D) (fun h => InstAt h x ox D od) :=
  { ty := fun _ _ _ I => I.type
    it := fun _ _ X _ => by
      obtain ⟨cdD, hcD, _⟩ := any_some hdct
      unfold clsIn at hcD
      split at hcD
      · rename_i c' d' cd' sl' ho
        intro A' Q' E' s' k q
        unfold isType loadHead
        exact wpAny_bind (wpAny_loadPart (k _ _ (X _ _ ho)) (wpAny_pure q))
      · cases hcD
    ne := (handS_kitx_exc (x := x) (ox := ox) hga hgt hsub hdct ha hn htk hm).ne
    ca := fun X I k => classD hga hgt hsub hdct ha hn htk hm X I k }
end
end PySem.W
namespace L2
open PySem PySem.Spec PyProof.Rows
theorem call_isED {X : Cx} {a D : Addr} {dx : Option (Addr × List (Str × V))} {oe : Obj} {pn : List (Addr × Obj)} (C : ExcC X.K D) (hz : Zc (.ref D) (dx.map (·.1)) oe) (hf : ∃ vs, oe.data = .fields vs) :
    CallR (X.suite a ((a, oe) :: pn)) (.builtin "isinstance") (fun xs H Q => rIsE X.K D a xs H Q ∧ ∀ p, dx = some p → H p.1 = some (.xd p.2)) := by
  intro pins s σ H xs us Q I r h
  cases dx with
  | none => exact call_isE C hz hf pins s σ H xs us Q I r h.1
  | some p =>
    obtain ⟨⟨c, cv, b, rfl, hcv, e, q⟩, hx⟩ := h
    have hx := hx p rfl
    cases r with
    | cons rx rr =>
      cases rr with
      | cons rt rr =>
        cases rr
        cases rx
        have ec := hcv _ rt
        subst ec
        obtain ⟨hget, _⟩ := I.pin (a, oe) (List.mem_append.mpr (.inl List.mem_cons_self))
        obtain ⟨vs, hv⟩ := hf
        have ho : ObjOk X.prog X.w H s.heap p.1 (.xd p.2) := I.hok p.1 _ hx
        obtain ⟨mA, hns, hr⟩ := ho
        obtain ⟨od, ho, hl⟩ := lookIn_ns hns
        have J : PySem.W.InstAt s.heap a oe D (some od) := ⟨hget, hz.1, by unfold PySem.W.notCls; rw [hv] <;> rfl, by rw [hz.2]; exact ho⟩
        exact PySem.W.kia_one (PySem.W.kitx_excD C.hg C.hk C.hs C.hd C.ha C.hn C.ht C.hm) I.kIn J e (fun z => nomatch z) fun tk => ⟨.bl b, H, I.kept (t' := tk) fun _ _ z => z, rfl, q⟩
end L2
/-! RpAX: a lambda handed to a def that calls it within try .. except X as e: ..; isinstance of e -/
namespace RP
open PySem L2
/-- the same at all places -/
noncomputable def uni {α ι : Type} [Inhabited ι] (f : ι → Res α) : Res α := by
  classical
  exact if ∀ a, f a = f default then f default else .bad
theorem uni_at {α ι : Type} [Inhabited ι] {f : ι → Res α} (h : uni f ≠ .bad) (a : ι) : f a = uni f := by
  unfold uni at h ⊢
  split
  · rename_i z
    exact z a
  · rename_i z
    rw [if_neg z] at h
    exact absurd rfl h
theorem uni_of {α ι : Type} [Inhabited ι] {f : ι → Res α} {r : Res α} (h : ∀ a, f a = r) : uni f = r := by
  unfold uni
  rw [if_pos fun a => by rw [h a, h default], h default]
/-- .. and a caught exception's dict -/
def Tab.plus (T : Tab) (d : Option (Addr × List (Str × V))) : Tab := { T with xd := d.toList ++ T.xd }
section
variable {K : PySem.W.Frag} {ad : List Addr} {H : Hp} {S : Sto} {T : Tab} {d : Option (Addr × List (Str × V))}
theorem Rel.plus (R : Rel T K ad H S) (h : ∀ p, d = some p → H p.1 = some (.xd p.2)) : Rel (T.plus d) K ad H S := by
  refine ⟨R.len, R.nd, fun i a o h1 h2 => ?_, R.tabs, fun p hp => ?_⟩
  · have := R.ob i a o h1 h2
    cases o <;> exact this
  · rcases List.mem_append.mp hp with z | z
    · exact h p (by simpa using z)
    · exact R.xds p z
theorem Rel.minus (R : Rel (T.plus d) K ad H S) : Rel T K ad H S := by
  refine ⟨R.len, R.nd, fun i a o h1 h2 => ?_, R.tabs, fun p hp => R.xds p (List.mem_append_right _ hp)⟩
  have := R.ob i a o h1 h2
  cases o <;> exact this
end
def atomV : W → Option V
  | .str z => some (.str z)
  | .int i => some (.int i)
  | _ => none
def atomsV : List W → Option (List V)
  | [] => some []
  | w :: ws => match atomV w, atomsV ws with
    | some v, some vs => some (v :: vs)
    | _, _ => none
theorem atom_rel {K : PySem.W.Frag} {ad : List Addr} {H : Hp} {w : W} {v u : V} (h : atomV w = some v) (r : RelW K ad H w u) : u = v := by
  cases w <;> cases h
  · cases r; rfl
  · cases r; rfl
theorem atoms_rel {K : PySem.W.Frag} {ad : List Addr} {H : Hp} : ∀ {ws : List W} {vs us : List V}, atomsV ws = some vs → RelWs K ad H ws us → us = vs
  | [], vs, us, h, r => by
    cases h
    cases r
    rfl
  | w :: ws, vs, us, h, r => by
    unfold atomsV at h
    cases r with
    | cons r1 r2 =>
      cases q1 : atomV w with
      | none => rw [q1] at h; cases h
      | some v =>
        cases q2 : atomsV ws with
        | none => rw [q1, q2] at h; cases h
        | some vs' =>
          rw [q1, q2] at h
          cases h
          rw [atom_rel q1 r1, atoms_rel q2 r2]
/-- the dict of an exception with such fields -/
def xdD (names : List Str) (vs : List V) (dd : Addr) : Option (Addr × List (Str × V)) := match vs with
  | [] => none
  | v :: vs => some (dd, names.zip (v :: vs))
/-- what a def that makes a lambda knows: its code object, its name -/
def owL (N : List Str) (qual : Str) (cc : Addr) : Ow := ⟨N, fun X => X.env.code = .ref cc ∧ X.env.qual = qual⟩
/-- what an except suite knows: the exception at a, of the class cc, with the dict d -/
def owE (T : Tab) (N : List Str) (a : Addr) (cc : Nat) (d : Option (Addr × List (Str × V))) : Ow := ⟨N, fun X => ∃ (Y : Cx) (oe : Obj) (pn : List (Addr × Obj)), X = Y.suite a ((a, oe) :: pn) ∧ Zc (.ref (T.cls cc)) (d.map (·.1)) oe ∧ (∃ vs, oe.data = .fields vs) ∧ X.A.units + 65 < cLine⟩
def isEM (a C : Addr) (ob : Option Bool) (ws : List W) : M W := fun S => match ws, ob with
  | [.adr a', .adr C'], some b => if a' = a ∧ C' = C then .ok (.bl b) S else .bad
  | _, _ => .bad
section
variable {m : Mo} {T : Tab} {k : Nat} {c t : Bool} {sc : Scope} {N : List Str} {ow : Ow}
def is3 (L : List ((Nat × Nat) × Bool)) (cc ci : Nat) : Option Bool := L.lookup (cc, ci)
theorem is3_mem : ∀ {L : List ((Nat × Nat) × Bool)} {cc ci : Nat} {b : Bool}, is3 L cc ci = some b → ((cc, ci), b) ∈ L
  | [], _, _, _, h => by cases h
  | (d, b') :: l, cc, ci, b, h => by
    unfold is3 at h
    rw [List.lookup_cons] at h
    by_cases e : (cc, ci) = d
    · rw [e] at h
      simp at h
      rw [h, e]
      exact List.mem_cons_self
    · have e' : ((cc, ci) == d) = false := by simpa using e
      rw [e'] at h
      exact List.mem_cons_of_mem _ (is3_mem h)
/-- isinstance(e, C) -/
theorem n_isE {T0 : Tab} {a : Addr} {cc : Nat} {d : Option (Addr × List (Str × V))} {l : List Str} (hdx : ∀ p, d = some p → p ∈ T.xd) (ci : Nat) (L : List ((Nat × Nat) × Bool)) (F : ∀ p ∈ L, ExcC m.K (T0.cls p.1.1) ∧ PySem.W.kitOne m.K (.ref (T0.cls p.1.1)) (.ref (T0.cls p.1.2)) = some p.2) :
    SN m T k c t sc N (owE T0 l a cc d) (.builtin "isinstance") (isEM a (T0.cls ci) (is3 L cc ci)) := fun X g E pins s σ H xs us Q I r h => by
  obtain ⟨Y, oe, pn, rfl, hz, hf, _⟩ := g.xi
  have ek : Y.K = m.K := by rw [← g.mo]; rfl
  obtain ⟨ad, S, ws, R, rw', h⟩ := h
  unfold isEM at h
  split at h
  · rename_i a' C' b hb
    by_cases e : a' = a ∧ C' = T0.cls ci
    · rw [if_pos e] at h
      obtain ⟨rfl, rfl⟩ := e
      obtain ⟨hC, hk⟩ := F _ (is3_mem hb)
      have hC : ExcC Y.K (T0.cls cc) := by rw [ek]; exact hC
      have hk : PySem.W.kitOne Y.K (.ref (T0.cls cc)) (.ref (T0.cls ci)) = some b := by rw [ek]; exact hk
      cases rw' with
      | cons r1 r2 =>
        cases r2 with
        | cons r2 r3 =>
          cases r3
          cases r1
          cases r2
          exact call_isED hC hz hf pins s σ H _ us Q I r ⟨⟨.ref (T0.cls ci), .ref (T0.cls ci), b, rfl, fun u hu => hu, hk, run_ok R (.bl _) h⟩, fun p z => R.xds p (hdx p z)⟩
    · rw [if_neg e] at h
      exact h.elim
  · exact h.elim
def subX (l : List (Nat × Bool)) (c : Nat) : Option Bool := l.lookup c
theorem subX_mem : ∀ {l : List (Nat × Bool)} {c : Nat} {b : Bool}, subX l c = some b → (c, b) ∈ l
  | [], _, _, h => by cases h
  | (d, b') :: l, c, b, h => by
    unfold subX at h
    rw [List.lookup_cons] at h
    by_cases e : c = d
    · subst e
      simp at h
      rw [h]
      exact List.mem_cons_self
    · have e' : (c == d) = false := by simpa using e
      rw [e'] at h
      exact List.mem_cons_of_mem _ (subX_mem h)
/-- a suite's end -/
def endR : Res Fl → Res W
  | .ok (.rt w) S => .ok w S
  | _ => .bad
def endF : Res Fl → Res W
  | .ok (.rt w) S => .ok w S
  | .ok (.nx _) S => .ok .non S
  | _ => .bad
/-- try: work() except X as e: suite; the rest -/
noncomputable def raisedM (fl : Nat → List Str) (sub : Nat → Option Bool) (fs : Nat → Addr → Option (Addr × List (Str × V)) → Slots → M Fl) (fr : Slots → M Fl) (n i : Nat) (A : M W) : M W := fun S => match A S with
  | .ok _ S1 => endF (fr (List.replicate n none) S1)
  | .ex x S1 => match sub x.c, atomsV x.fs with
    | some true, some vs => endR (uni fun (p : Addr × Addr) => fs x.c p.1 (xdD (fl x.c) vs p.2) ((List.replicate n none).set i (some (.adr p.1))) S1)
    | _, _ => .bad
  | .bad => .bad
def TTR (T : Tab) (K : PySem.W.Frag) (gR : M W → M W) : (XK → Hp → VK → Prop) → Hp → VK → Prop := fun tl H Q => ∃ ad S A, Rel T K ad H S ∧
  (∀ E' ad' H' S' Q', Le K ad H ad' H' → Rel T K ad' H' S' → run T K ad' H' (A S') Q' E' → tl E' H' Q') ∧ run T K ad H (gR A S) Q fun _ _ _ => False
structure LamFn (m : Mo) (T : Tab) (k : Nat) (x a : Str) (g : Addr) (gR : M W → M W) : Prop where
  ok : ∃ (oc : Value) (od : Option Addr) (pg : Arguments) (bg : List Stmt) (sg : Scope) (dV kV doc pm : Value) (an : Option Addr) (cdv ct : Value) (osl : Array (Option Value)) (Ng : List Str),
    m.K.lookup g = some ⟨oc, od, .func (PySem.W.fnOf x x pg bg sg dV kV doc pm an cdv ct), osl⟩ ∧ PySem.W.codeIn m.K cdv x = true ∧ Binds m.K (PySem.W.fnOf x x pg bg sg dV kV doc pm an cdv ct) [a] [] ∧ FnScope Ng [a] sg ∧ Ng[0]? = some a ∧ Vis sg a ∧
    ∀ X : Cx, moOf X = m → Room (k + 1) X.A → ∀ q, LamX.GivesTo X Ng x sg g cdv bg a q (TTR T m.K gR)
  kp : PySem.W.keepIn m.K (.ref g) = true
  ne : ∀ A S x S', gR A S ≠ .ex x S'
theorem endR_ne {r : Res Fl} {x : Exn} {S : Sto} : endR r ≠ .ex x S := fun z => by
  unfold endR at z
  split at z <;> cases z
theorem endF_ne {r : Res Fl} {x : Exn} {S : Sto} : endF r ≠ .ex x S := fun z => by
  unfold endF at z
  split at z <;> cases z
theorem relSl_none {K : PySem.W.Frag} {ad : List Addr} {H : Hp} {σ : St} {n : Nat} (h : σ.length = n) : RelSl K ad H (List.replicate n none) σ :=
  ⟨by rw [List.length_replicate, h], fun i w e => by
    rw [List.getElem?_replicate] at e
    split at e <;> cases e⟩
theorem takes_len {X : Cx} {W : WX} (h : Takes X W) : Takes X fun c d σ H => σ.length = X.N.length → W c d σ H := fun u s' ⟨a, B, sI, pins, σ, H, cls, d, e, I, nb, up, sky, na, os, ag, w⟩ =>
  h u s' ⟨a, B, sI, pins, σ, H, cls, d, e, I, nb, up, sky, na, os, ag, w I.len⟩
theorem lam_fn {x a e B : Str} {st : Stmt} {g : Addr} {fd : FuncData} {Ng : List Str} {i ccB : Nat} {b0 : Stmt} {suite rest : List Stmt} {p1 p2 p3 p4 p5 p6 : Pos} {fs : Nat → Addr → Option (Addr × List (Str × V)) → Slots → M Fl} {fr : Slots → M Fl} {l : List (Nat × Bool)}
    (F : Fun m.K x x st g fd) (S : FnScope Ng [a] (defScope st)) (hb : Binds m.K fd [a] [])
    (hst : defBody st = .Try [.Expr (.Call (.Name a p1) [] [] p2) p3] [.ExceptHandler (some (.Name B p4)) (some e) (b0 :: suite) p5] [] [] p6 :: rest)
    (hN : Ng[0]? = some a) (hva : Vis (defScope st) a) (hi : Ng[i]? = some e) (hle : (defScope st).names.lookup e = some .local) (hB : m.mg B = some (.ref (T.cls ccB))) (hgB : (defScope st).names.lookup B = some .globalImplicit) (hdb : (B == ("__debug__" : Str)) = false)
    (hl : ∀ p ∈ l, PySem.W.exmOne m.K (.ref (T.cls p.1)) (.ref (T.cls ccB)) = some p.2)
    (hs : ∀ cc a d, SSs m (T.plus d) k false true (defScope st) Ng (owE T Ng a cc d) (b0 :: suite) (fs cc a d)) (hr : SSs m T k true true (defScope st) Ng (ow0 Ng) rest fr) :
    LamFn m T k x a g (raisedM T.fl (subX l) fs fr Ng.length i) := by
  obtain ⟨oc, od, kV, doc, pm, an, cdv, ct, osl, rfl, lk, hcd⟩ := F.ex
  refine ⟨⟨oc, od, _, _, _, _, kV, doc, pm, an, cdv, ct, osl, Ng, lk, hcd, hb, S, hN, hva, fun X em hroom q => ?_⟩, F.kp, fun A S x S' z => by
    unfold raisedM at z
    split at z
    · exact endF_ne z
    · split at z
      · exact endR_ne z
      · cases z
    · cases z⟩
  intro f c' s H Q tl act hc h
  obtain ⟨ad, S0, A, R, hact, hrun⟩ := h
  have ek : X.K = m.K := by rw [← em]; rfl
  have eg : X.mg = m.mg := by rw [← em]; rfl
  have hr2 := hroom.deeper (PyProof.Rows.envOfC x (defScope st) s.heap.objs.size g cdv)
  generalize hZ : (cxOf C8.CX0 X.prog X.w X.K X.mg X.base Ng x (defScope st) g cdv X.A X.stack s H C8.E0) = Z at act ⊢
  have gZ : Good m k true true (defScope st) Ng (ow0 Ng) Z.nox := by
    subst hZ
    exact ⟨em, rfl, rfl, S.nd, fun _ => rfl, fun _ => hr2, hr2.units, PassesOwn.never, fun _ _ => rfl, trivial, fun _ => ⟨rfl, rfl⟩⟩
  have zN : Z.N = Ng := by subst hZ; rfl
  have zK : Z.K = X.K := by subst hZ; rfl
  have zM : Z.mg = X.mg := by subst hZ; rfl
  have zs : Z.env.scope = defScope st := by subst hZ; rfl
  obtain ⟨hs1, hf1⟩ := gZ.top rfl
  rw [hst]
  refine ⟨_, pss_cons (ps_try_as (X := Z.nox) (c := .ref (T.cls ccB)) (i := i) (Wout := fun _ _ _ _ => False)
    (tb := fun W D σ H => ∃ E : XK, (∀ cls d σ' H', E cls d H' → σ'.length = Ng.length → W cls d σ' H') ∧ σ[0]? = some (some (.ref f)) ∧ H c' = some (LamX.CodeO c' q) ∧ tl E H fun _ H1 => D.nx σ H1)
    (ts := fun a cls d D σ H => ∃ cc dx, cls = .ref (T.cls cc) ∧ d = dx.map (·.1) ∧ rdS (T.plus dx) m.K (fs cc a dx) (fun _ _ _ _ => False) D σ H)
    hs1 hf1 (by rw [gZ.hN]; exact gZ.nd) (by rw [gZ.hN]; exact hi) (by show Z.env.scope.names.lookup e = _; rw [zs]; exact hle) ⟨gl_of gZ hgB, hdb, .inl (by show Z.mg B = _; rw [zM, eg]; exact hB)⟩ LamX.takes0
    (fun W pn xe tkW po => ?_) (fun a oe cls d pn hz hf => ?_)) (hr _ gZ _ LamX.takes0), ?_⟩
  · refine ⟨fun pins s' σ H' D I h' => ?_⟩
    obtain ⟨E, hE, e0, e1, e2⟩ := h'
    have hp := act (fun c d σ H => σ.length = Ng.length → W c d σ H) pn xe E p1 p2 (by have := takes_len tkW; rwa [show (Z.nox.tr pn xe).N = Ng from zN] at this) (fun cls d σ' H' he hl => hE cls d σ' H' he hl)
    exact (pss_one (ps_expr hp)).run pins s' σ H' D I ⟨e0, e1, e2⟩
  · refine ⟨fun pins s' σ H' D I h' => ?_⟩
    obtain ⟨cc, dx, rfl, rfl, h'⟩ := h'
    have gS : Good m k false true (defScope st) Ng (owE T Ng a cc dx) (Z.nox.suite a ((a, oe) :: pn)) := ⟨gZ.mo, gZ.hsc, gZ.hN, gZ.nd, fun z => (by cases z), fun z => (by cases z), gZ.un, PassesOwn.never, gZ.fn, ⟨Z.nox, oe, pn, rfl, hz, hf, by have := (gZ.room rfl).un; show Z.A.units + 65 < cLine; have : (Z.nox).A.units + 16 * k + 200 < cLine := this; have : Z.A.units + 16 * k + 200 < cLine := this; omega⟩, gZ.top⟩
    exact (hs cc a dx _ gS _ LamX.takes0).run pins s' σ H' D I h'
  · have hlen : (L2.start Ng [V.ref f]).length = Ng.length := by
      unfold L2.start
      have : 0 < Ng.length := (List.getElem?_eq_some_iff.mp hN).1
      simp
      omega
    refine ⟨fun cls d H' => ∃ ad' S' x', Le m.K ad H ad' H' ∧ Rel T m.K ad' H' S' ∧ RelX T m.K ad' H' x' cls d ∧ A S0 = .ex x' S', fun cls d σ' H' hx hσ => ?_, ?_, hc, hact _ ad H S0 _ Le.refl R ?_⟩
    · obtain ⟨ad', S', x', le, R', ⟨hcl, hd⟩, ax⟩ := hx
      unfold raisedM at hrun
      rw [ax] at hrun
      simp only at hrun
      cases hq : subX l x'.c with
      | none => rw [hq] at hrun; exact hrun.elim
      | some b =>
        rw [hq] at hrun
        cases b with
        | false => exact hrun.elim
        | true =>
          cases hv : atomsV x'.fs with
          | none => rw [hv] at hrun; exact hrun.elim
          | some vs =>
            rw [hv] at hrun
            simp only at hrun
            have hdd : ∃ dd, d = (xdD (T.fl x'.c) vs dd).map (·.1) ∧ ∀ p, xdD (T.fl x'.c) vs dd = some p → H' p.1 = some (.xd p.2) := by
              cases hxf : x'.fs with
              | nil =>
                rw [hxf] at hd hv
                cases hv
                exact ⟨0, hd, fun p z => by cases z⟩
              | cons w ws =>
                rw [hxf] at hd hv
                obtain ⟨dd, us, e1, e2, e3, e4⟩ := hd
                have := atoms_rel hv e4
                subst this
                cases us with
                | nil => cases e4
                | cons u us => exact ⟨dd, e1, fun p z => by cases z; exact e2⟩
            obtain ⟨dd, hd1, hd2⟩ := hdd
            refine ⟨true, by show PySem.W.exmOne Z.K _ _ = _; rw [zK, ek, hcl]; exact hl _ (subX_mem hq), fun _ a na => ⟨x'.c, xdD (T.fl x'.c) vs dd, hcl, hd1, ad', S', _, R'.plus hd2, (relSl_none hσ).set (.adr a) i, ?_⟩, fun z => by cases z⟩
            generalize hu : (uni fun (p : Addr × Addr) => fs x'.c p.1 (xdD (T.fl x'.c) vs p.2) ((List.replicate Ng.length none).set i (some (.adr p.1))) S') = r at hrun
            cases r with
            | bad => exact hrun.elim
            | ex _ _ => exact hrun.elim
            | ok fl S2 =>
              have ea := uni_at (f := fun (p : Addr × Addr) => fs x'.c p.1 (xdD (T.fl x'.c) vs p.2) ((List.replicate Ng.length none).set i (some (.adr p.1))) S') (by rw [hu]; intro z; cases z) (a, dd)
              rw [hu] at ea
              rw [show fs x'.c a (xdD (T.fl x'.c) vs dd) ((List.replicate Ng.length none).set i (some (.adr a))) S' = _ from ea]
              cases fl with
              | rt w => exact fun ad2 H2 v l2 R2 r2 => hrun ad2 H2 v (le.trans l2) R2.minus r2
              | _ => exact hrun.elim
    · unfold L2.start
      rfl
    · unfold raisedM at hrun
      cases q : A S0 with
      | bad => rw [q] at hrun; exact hrun.elim
      | ex x' S' => exact fun ad' H' cls d le R' rx => ⟨ad', S', x', le, R', rx, rfl⟩
      | ok w S1 =>
        rw [q] at hrun
        simp only at hrun
        intro ad' H' v le R' rv
        refine ⟨ad', S1, _, R', relSl_none hlen, ?_⟩
        cases z : fr (List.replicate Ng.length none) S1 with
        | bad => rw [z] at hrun; exact hrun.elim
        | ex _ _ => rw [z] at hrun; exact hrun.elim
        | ok fl S2 =>
          rw [z] at hrun
          cases fl with
          | nx sl => exact fun ad2 H2 σ2 l2 R2 _ => hrun ad2 H2 .non (le.trans l2) R2 .non
          | rt w => exact fun ad2 H2 v2 l2 R2 r2 => hrun ad2 H2 v2 (le.trans l2) R2 r2
          | _ => exact hrun.elim
/-! ### the maker of the lambda -/
section
variable {K : PySem.W.Frag} {ad : List Addr} {H H1 : Hp} {S : Sto}
theorem leExtN (e : LamX.ExtN H H1) : Le K ad H ad H1 := by
  have nt : ∀ {o : HO}, Keen o → ∀ ps, o ≠ .tbl ps := fun {o} k ps z => by
    rw [z] at k
    exact k
  refine ⟨List.prefix_rfl, fun a vs h => ?_, fun b hb n => absurd hb n, fun b o h k _ => e b o h (nt k), fun b h => e b _ h fun ps z => (by cases z), fun b x h => .inl (e b _ h fun ps z => (by cases z))⟩
  rcases h with (h | ⟨o, h⟩) | h
  · exact .inl (.inl (e _ _ h fun ps z => (by cases z)))
  · exact .inl (.inr ⟨o, e _ _ h fun ps z => (by cases z)⟩)
  · exact .inr h
theorem relOb_N {a : Addr} {o : Ob} (e : LamX.ExtN H H1) (r : RelOb T K ad H a o) : RelOb T K ad H1 a o := by
  have l : Le K ad H ad H1 := leExtN e
  cases o with
  | lst ws => obtain ⟨vs, h1, h2⟩ := r; exact ⟨vs, e _ _ h1 (fun ps z => by cases z), h2.mono l⟩
  | scr ns =>
    rcases r with h1 | ⟨o, h1⟩
    · exact .inl (e _ _ h1 (fun ps z => by cases z))
    · exact .inr ⟨o, e _ _ h1 (fun ps z => by cases z)⟩
  | ins c ws => obtain ⟨dx, vs, h1, h2, h3⟩ := r; exact ⟨dx, vs, e _ _ h1 (fun ps z => by cases z), h2, h3.mono l⟩
  | slo c ws =>
    obtain ⟨dx, vs, h1, h2, h4, h3⟩ := r
    refine ⟨dx, vs, ?_, h2, h4.imp (fun q => e _ _ q fun ps z => by cases z) (fun q => e _ _ q fun ps z => by cases z), h3.mono l⟩
    rcases h1 with ⟨h1, h5⟩ | ⟨h1, h5⟩
    · exact .inl ⟨e _ _ h1 (fun ps z => by cases z), h5⟩
    · exact .inr ⟨e _ _ h1 (fun ps z => by unfold SlX.SlO at z; cases z), e _ _ h5 fun ps z => by cases z⟩
  | dct kvs => obtain ⟨vs, h1, h2⟩ := r; exact ⟨vs, e _ _ h1 (fun ps z => by cases z), h2.mono l⟩
/-- no object of the state is a code object -/
theorem no_code {X : Cx} {pins : List (Addr × Obj)} {σ : St} {s : Shared} (I : Inv X pins σ H s) (R : Rel T K ad H S) {c : Addr} {q : Str} (h : H c = some (LamX.CodeO c q)) : c ∉ ad := fun hm => by
  obtain ⟨i, hi⟩ := List.mem_iff_getElem?.mp hm
  have hl := (List.getElem?_eq_some_iff.mp hi).1
  rw [R.len] at hl
  have r := R.ob i c _ hi (List.getElem?_eq_getElem hl)
  generalize S[i] = o at r
  cases o with
  | lst ws => obtain ⟨vs, h1, _⟩ := r; rw [h] at h1; cases h1
  | scr ns =>
    rcases r with h1 | ⟨o, h1⟩ <;> (rw [h] at h1; cases h1)
  | ins c ws => obtain ⟨dx, vs, h1, _⟩ := r; rw [h] at h1; cases h1
  | dct kvs => obtain ⟨vs, h1, _⟩ := r; rw [h] at h1; cases h1
  | slo cc ws =>
    obtain ⟨dx, vs, h1, _⟩ := r
    rcases h1 with ⟨h1, _⟩ | ⟨h1, _⟩
    · rw [h] at h1; cases h1
    · obtain ⟨⟨oc, us, tk, g1, g2, _⟩, _, _⟩ := I.hok c _ h
      obtain ⟨⟨sl, g3, _⟩, _, _⟩ := I.hok c _ h1
      rw [g1] at g3
      rw [Option.some.inj g3] at g2
      cases g2
theorem rel_N {X : Cx} {pins : List (Addr × Obj)} {σ : St} {s : Shared} (I : Inv X pins σ H s) (R : Rel T K ad H S) (e : LamX.ExtN H H1) (t : LamX.Tabs T.tb H1) : Rel T K ad H1 S := by
  refine ⟨R.len, R.nd, fun i a o h1 h2 => relOb_N e (R.ob i a o h1 h2), fun p hp => ?_, fun p hp => e _ _ (R.xds p hp) fun ps z => by cases z⟩
  obtain ⟨ps, h1, h2, h3⟩ := t p hp
  refine ⟨ps, h1, h2, fun pos cv hc => ?_⟩
  obtain ⟨c, e1, e2⟩ := h3 pos cv hc
  refine ⟨c, e1, e2, fun hm => ?_⟩
  obtain ⟨i, hi⟩ := List.mem_iff_getElem?.mp hm
  obtain ⟨_, u, _, hu, ku⟩ := R.there hi
  have hu1 := e c u hu fun ps z => by rw [z] at ku; exact ku
  rw [e2] at hu1
  exact no_code I R (by rw [hu, ← Option.some.inj hu1]) hm
end
theorem e_lamcall {x a qual : Str} {g cc P : Addr} {gR : M W → M W} {j kf : Nat} {params : Arguments} {body : Expr} {scope : Scope} {fb : Slots → M W} {l : List Str} {p lpos pos : Pos} (hc : c = true) (F : LamFn m T kf x a g gR) (hkf : kf + 1 ≤ k) (hkj : j + 2 ≤ k) (hm : m.mg x = some (.ref g))
    (TB : LamX.TabB m.base m.mg cc P) (hmT : (P, qual ++ "<lambda>") ∈ T.tb) (hu : ∀ p ∈ T.tb, p.1 = P → p.2 = qual ++ "<lambda>") (hb : SE m T j true false scope N (ow0 []) body fb)
    (hgx : sc.names.lookup x = some .globalImplicit := by rfl) (hL : LamX.lamSB sc scope = true := by decide +kernel) (hdef : ∀ env, defaultsOf params env = ([], []) := by intro _; rfl)
    (hbind : ∀ (q : Str) (cl : List (Str × Addr)) (pm cv ctv : Value), bindArgs (PySem.W.kla_fn "<lambda>" q params body scope cl pm cv ctv) ⟨[], []⟩ = pure [] := by intro _ _ _ _ _; rfl)
    (hdb : (x == ("__debug__" : Str)) = false := by decide) (hd : (a == ("__debug__" : Str)) = false := by decide) (hcd : (a == ("__classdict__" : Str)) = false := by decide) :
    SE m T k c t sc N (owL l qual cc) (.Call (.Name x p) [.Lambda params body scope lpos] [] pos) (fun sl => gR (fb sl)) := fun X gg Wx tk => by
  have hG := gl_of gg hgx
  have room := gg.room hc
  obtain ⟨hcode, hq⟩ := gg.xi
  have hsc := gg.hsc
  have hN := gg.hN
  have hnd := gg.nd
  obtain ⟨rfl, _⟩ := gg
  obtain ⟨oc, od, pg, bg, sg, dV, kV, doc, pm, an, cdv, ct, osl, Ng, lk, hcdi, hb', Sg, hN0, hva, hGT⟩ := F.ok
  refine ⟨fun pins s σ H Q I h => ?_⟩
  obtain ⟨ad, S, sl, R, L, h⟩ := h
  refine (LamX.pe_lamcall (k := j) (T := T.tb) (TT := TTR T (moOf X).K gR) (t := fun E => rd T (moOf X).K fb fun c d _ H => E c d H) hG hm F.kp lk hcdi hb' Sg hN0 hva (hGT X rfl (room.mono hkf) _) TB hcode (by rw [hq]; exact hmT) (by rw [hq]; exact hu) (room.mono hkj)
    (LamX.lamS_by (by rw [hsc]; exact hL)) (hdef _) hbind (fun A outer s H E f c' hr => hb (LamX.lamCx X A outer s H E scope f c') ⟨rfl, rfl, hN, hnd, fun _ => rfl, fun _ => hr, hr.units, passes_of rfl, fun x hx => (by cases hx), trivial, fun z => (by cases z)⟩ _ (takes_of (X := LamX.lamCx X A outer s H E scope f c') rfl rfl rfl rfl)) hdb hd hcd).run pins s σ H Q I
    ⟨fun p hp => (R.tabs p hp).s, fun H1 eN t1 => ⟨ad, S, fb sl, rel_N I R eN t1, fun E' ad' H' S' Q' le R' hr => ⟨ad', S', sl, R', (L.mono (leExtN eN)).mono le, hr⟩, ?_⟩⟩
  have h : run T (moOf X).K ad H1 (gR (fb sl) S) Q _ := run_mono (leExtN (K := (moOf X).K) (ad := ad) eN) h
  generalize hz : gR (fb sl) S = r at h ⊢
  cases r with
  | ok w S1 => exact h
  | bad => exact h.elim
  | ex x S1 => exact absurd hz (F.ne _ _ _ _)
end
end RP

/-! RpAY: isinstance of the caught exception; what is never asked -/
namespace RP
open PySem L2
section
variable {m : Mo} {T : Tab} {k : Nat} {c t : Bool} {sc : Scope} {N : List Str} {ow : Ow}
/-- an expression that is never evaluated -/
theorem e_stuck {e : Expr} : SE m T k c t sc N ow e (fun _ => stuck) := fun X g Wx tk => ⟨fun pins s σ H Q I ⟨_, _, _, _, _, h⟩ => h.elim⟩
def isxM (a : Addr) (ob : Option Bool) (w : W) : M W := fun S => match w, ob with
  | .adr a', some b => if a' = a then .ok (.bl b) S else .bad
  | _, _ => .bad
theorem e_isE {T0 : Tab} {a : Addr} {cc : Nat} {d : Option (Addr × List (Str × V))} {l : List Str} {x : Str} {o : Expr} {fo : Slots → M W} {pos p p2 : Pos} (hdx : ∀ p, d = some p → p ∈ T.xd) (ci : Nat) (L : List ((Nat × Nat) × Bool)) (F : ∀ p ∈ L, ExcC m.K (T0.cls p.1.1) ∧ PySem.W.kitOne m.K (.ref (T0.cls p.1.1)) (.ref (T0.cls p.1.2)) = some p.2)
    (hx : m.mg x = some (.ref (T0.cls ci))) (hm : m.mg "isinstance" = none) (ho : SE m T k c t sc N (owE T0 l a cc d) o fo) (hg : sc.names.lookup x = some .globalImplicit := by rfl) (hgi : sc.names.lookup ("isinstance" : Str) = some .globalImplicit := by rfl) (hd : (x == ("__debug__" : Str)) = false := by decide)
    (h1 : ∀ env, starEach [o, .Name x p2] env = (false, eval o env) :: starEach [.Name x p2] env := by intro _; rfl) :
    SE m T k c t sc N (owE T0 l a cc d) (.Call (.Name "isinstance" p) [o, .Name x p2] [] pos) (fun s => bd (fo s) (isxM a (is3 L cc ci))) := by
  have h := e_blt (pos := pos) (p := p) (n_isE (T0 := T0) (a := a) (cc := cc) (d := d) (l := l) hdx ci L F) hm (a_cons ho (a_cons (e_cls (pos := p2) hx hg hd) a_nil) h1) (by decide +kernel) hgi (by decide) (by decide) h1
  have e : (fun s => bd (fo s) (isxM a (is3 L cc ci))) = fun s => bd (bd (fo s) fun x => bd (bd ((fun _ => ret (W.adr (T0.cls ci))) s) fun x => bd ((fun _ => ret []) s) fun xs => ret (x :: xs)) fun xs => ret (x :: xs)) (isEM a (T0.cls ci) (is3 L cc ci)) := by
    funext s S
    simp only [bd, ret, isEM, isxM]
    cases fo s S with
    | ok w S' =>
      cases w <;> cases is3 L cc ci <;> simp
    | ex _ _ => simp
    | bad => simp
  rw [e]
  exact h
def isETM (a : Addr) (n : String) (ob : Option Bool) (ws : List W) : M W := fun S => match ws, ob with
  | [.adr a', .ty n'], some b => if a' = a ∧ n' = n then .ok (.bl b) S else .bad
  | _, _ => .bad
/-- isinstance(e, a built-in type) -/
theorem n_isET {T0 : Tab} {a : Addr} {cc : Nat} {d : Option (Addr × List (Str × V))} {l : List Str} (hdx : ∀ p, d = some p → p ∈ T.xd) (n : String) (L : List (Nat × Bool)) (F : ∀ p ∈ L, ExcC m.K (T0.cls p.1) ∧ PySem.W.kitOne m.K (.ref (T0.cls p.1)) (.type n) = some p.2) :
    SN m T k c t sc N (owE T0 l a cc d) (.builtin "isinstance") (isETM a n (subX L cc)) := fun X g E pins s σ H xs us Q I r h => by
  obtain ⟨Y, oe, pn, rfl, hz, hf, _⟩ := g.xi
  have ek : Y.K = m.K := by rw [← g.mo]; rfl
  obtain ⟨ad, S, ws, R, rw', h⟩ := h
  unfold isETM at h
  split at h
  · rename_i a' n' b hb
    by_cases e : a' = a ∧ n' = n
    · rw [if_pos e] at h
      obtain ⟨rfl, rfl⟩ := e
      obtain ⟨hC, hk⟩ := F _ (subX_mem hb)
      have hC : ExcC Y.K (T0.cls cc) := by rw [ek]; exact hC
      have hk : PySem.W.kitOne Y.K (.ref (T0.cls cc)) (.type n') = some b := by rw [ek]; exact hk
      cases rw' with
      | cons r1 r2 =>
        cases r2 with
        | cons r2 r3 =>
          cases r3
          cases r1
          cases r2
          exact call_isED hC hz hf pins s σ H _ us Q I r ⟨⟨.ty n', .type n', b, rfl, fun u hu => hu, hk, run_ok R (.bl _) h⟩, fun p z => R.xds p (hdx p z)⟩
    · rw [if_neg e] at h
      exact h.elim
  · exact h.elim
theorem e_isET {T0 : Tab} {a : Addr} {cc : Nat} {d : Option (Addr × List (Str × V))} {l : List Str} {n : String} {x : Str} {o : Expr} {fo : Slots → M W} {pos p p2 : Pos} (hdx : ∀ p, d = some p → p ∈ T.xd) (L : List (Nat × Bool)) (F : ∀ p ∈ L, ExcC m.K (T0.cls p.1) ∧ PySem.W.kitOne m.K (.ref (T0.cls p.1)) (.type n) = some p.2)
    (hx : m.mg x = none) (hv : bootBuiltins x = some (.type n)) (hm : m.mg "isinstance" = none) (ho : SE m T k c t sc N (owE T0 l a cc d) o fo) (hg : sc.names.lookup x = some .globalImplicit := by rfl) (hgi : sc.names.lookup ("isinstance" : Str) = some .globalImplicit := by rfl) (hn : x ≠ "__name__" := by decide) (hd : (x == ("__debug__" : Str)) = false := by decide)
    (h1 : ∀ env, starEach [o, .Name x p2] env = (false, eval o env) :: starEach [.Name x p2] env := by intro _; rfl) :
    SE m T k c t sc N (owE T0 l a cc d) (.Call (.Name "isinstance" p) [o, .Name x p2] [] pos) (fun s => bd (fo s) (isxM a (subX L cc))) := by
  have h := e_blt (pos := pos) (p := p) (n_isET (T0 := T0) (a := a) (cc := cc) (d := d) (l := l) hdx n L F) hm (a_cons ho (a_cons (e_ty (pos := p2) hx hv hg hn hd) a_nil) h1) (by decide +kernel) hgi (by decide) (by decide) h1
  have e : (fun s => bd (fo s) (isxM a (subX L cc))) = fun s => bd (bd (fo s) fun x => bd (bd ((fun _ => ret (W.ty n)) s) fun x => bd ((fun _ => ret []) s) fun xs => ret (x :: xs)) fun xs => ret (x :: xs)) (isETM a n (subX L cc)) := by
    funext s S
    simp only [bd, ret, isETM, isxM]
    cases fo s S with
    | ok w S' =>
      cases w <;> cases subX L cc <;> simp
    | ex _ _ => simp
    | bad => simp
  rw [e]
  exact h
theorem plus_mem {T0 : Tab} {d : Option (Addr × List (Str × V))} : ∀ p, d = some p → p ∈ (T0.plus d).xd := fun p z => by
  subst z
  exact List.mem_cons_self
/-- the caught exception's field -/
def xfM (a : Addr) (d : Option (Addr × List (Str × V))) (f : Str) (w : W) : M W := fun S => match w, d with
  | .adr a', some (_, fs) => if a' = a then match fs.lookup f with
    | some (.str z) => .ok (.str z) S
    | some (.int i) => .ok (.int i) S
    | _ => .bad else .bad
  | _, _ => .bad
/-- e.f -/
theorem e_xattr {T0 : Tab} {a : Addr} {cc : Nat} {d : Option (Addr × List (Str × V))} {l : List Str} {f : Str} {o : Expr} {fo : Slots → M W} {pos : Pos} (hdx : ∀ p, d = some p → p ∈ T.xd) (L : List Nat) (F : ∀ p ∈ L, XfC m.K (T0.cls p) ∧ PySem.W.findIn m.K (.ref (T0.cls p)) f = some none)
    (ho : SE m T k c t sc N (owE T0 l a cc d) o fo) (hb : ∀ env, attributeBase o f env (eval o env) = eval o env := by intro _; rfl) :
    SE m T k c t sc N (owE T0 l a cc d) (.Attribute o f pos) (fun s => if L.contains cc = true then bd (fo s) (xfM a d f) else stuck) := fun X g Wx tk => by
  have h := ho X g Wx tk
  obtain ⟨Y, oe, pn, rfl, hz, hf, _⟩ := g.xi
  have ek : Y.K = m.K := by rw [← g.mo]; rfl
  by_cases hL : L.contains cc = true
  · obtain ⟨F1, F2⟩ := F cc (by simpa using hL)
    simp only [if_pos hL]
    refine (pe_xf (X := Y) (pos := pos) (by rw [ek]; exact F1) (by rw [ek]; exact F2) hz hf h (hb _)).imp fun σ H Q h => ?_
    obtain ⟨ad, S, sl, R, Ls, h⟩ := h
    refine ⟨ad, S, sl, R, Ls, run_imp (run_bd h) ?_⟩
    rintro v H1 ⟨ad1, S1, w1, l1, R1, r1, h1⟩
    unfold xfM at h1
    split at h1
    · rename_i a' dd fs
      by_cases e : a' = a
      · rw [if_pos e] at h1
        subst e
        cases r1
        refine ⟨rfl, rfl, dd, fs, ?_⟩
        have hx := R1.xds _ (hdx _ rfl)
        cases hl : fs.lookup f with
        | none => rw [hl] at h1; exact h1.elim
        | some v =>
          rw [hl] at h1
          cases v with
          | str z => exact ⟨_, rfl, hx, rfl, run_ok R1 (.str _) h1⟩
          | int i => exact ⟨_, rfl, hx, rfl, run_ok R1 (.int _) h1⟩
          | _ => exact h1.elim
      · rw [if_neg e] at h1
        exact h1.elim
    · exact h1.elim
  · simp only [if_neg hL]
    exact ⟨fun pins s σ H Q I ⟨_, _, _, _, _, h⟩ => h.elim⟩
end
end RP

/-! RpAZ: the law's def at the end, with tables of code objects. -/
namespace RP
open PySem L2
/-- what is written, without the tables -/
def noTab (Ps : List Addr) (K : PySem.W.Frag) : PySem.W.Frag := K.filter fun p => !Ps.contains p.1
theorem noTab_lookup (Ps : List Addr) : ∀ (K : PySem.W.Frag) (a : Addr), (noTab Ps K).lookup a = if Ps.contains a = true then none else K.lookup a
  | [], a => by
    show none = _
    split <;> rfl
  | (b, o) :: K, a => by
    have ih := noTab_lookup Ps K a
    show List.lookup a (List.filter _ ((b, o) :: K)) = _
    cases hb : Ps.contains b with
    | true =>
      rw [List.filter_cons_of_neg (by simpa using hb)]
      have ih : List.lookup a (List.filter (fun p : Addr × Obj => !Ps.contains p.1) K) = _ := ih
      rw [ih, List.lookup_cons]
      by_cases e : a = b
      · rw [e, if_pos hb, if_pos hb]
      · have e' : (a == b) = false := by simpa using e
        rw [e']
    | false =>
      rw [List.filter_cons_of_pos (by simpa using hb), List.lookup_cons, List.lookup_cons]
      by_cases e : a = b
      · rw [e, if_neg (by rw [hb]; decide)]
        have e' : (b == b) = true := by simp
        rw [e']
      · have e' : (a == b) = false := by simpa using e
        rw [e']
        exact ih
theorem noTab_in {Ps : List Addr} {K : PySem.W.Frag} {h : Heap} (X : K.In h) : (noTab Ps K).In h := fun a o e => by
  rw [noTab_lookup] at e
  split at e
  · cases e
  · exact X a o e
theorem noTab_none {Ps : List Addr} {K : PySem.W.Frag} {a : Addr} (h : Ps.contains a = true) : (noTab Ps K).lookup a = none := by
  rw [noTab_lookup, if_pos h]
def spLawT (K : PySem.W.Frag) (cs : List (Addr × Addr)) : Sp := fun vs H Q _ => ∃ (a : Addr) (ns : List Int), vs = [.ref a] ∧ (∀ p ∈ cs, H p.2 = some (.tbl #[])) ∧ SqL K H a (ns.map V.int) ∧ ∀ H', Q (.bl true) H'
theorem sp_lawT {T : Tab} {K : PySem.W.Frag} {g : List W → M W} {cs : List (Addr × Addr)} (hn : noList K = true) (ok : ∀ (S : Sto) (sc : Nat) (ns : List Int), S[sc]? = some (.scr ns) → Ho (g [.ref sc] S) (fun v _ => v = .bl true) noX)
    (ht : ∀ p ∈ T.tb, ∃ q ∈ cs, p.1 = q.2) (hx : T.xd = [] := by rfl) : ∀ vs H Q E, spLawT K cs vs H Q E → spM T K g vs H Q E := by
  rintro vs H Q E ⟨a, ns, rfl, hT, hS, hQ⟩
  have ha : H a = some (.lst (ns.map V.int)) ∨ ∃ o, H a = some (.frz o (.lst (ns.map V.int))) := by
    rcases hS with (h | h) | ⟨o, its, n, h1, h2, _⟩
    · exact .inl h
    · exact .inr h
    · have := List.all_eq_true.mp hn _ (lookup_mem h1)
      have h2 : o.cls = .type "list" := h2
      simp only [h2] at this
      exact absurd this (by decide)
  obtain ⟨v, S', e, rfl⟩ := Ho.ex (ok [.scr ns] 0 ns rfl)
  refine ⟨[a], [.scr ns], [.ref 0], ⟨rfl, by simp, fun i b ob e1 e2 => ?_, fun p hp => ?_, fun p hp => by rw [hx] at hp; cases hp⟩, .cons (.ref rfl) .nil, ?_⟩
  · match i, e1, e2 with
    | 0, e1, e2 =>
      cases e1
      cases e2
      exact ha
  · obtain ⟨q, hq, e⟩ := ht p hp
    exact ⟨#[], by rw [e]; exact hT q hq, True.intro, fun pos cv hc => by
      have z : codeAmong pos [] = some cv := hc
      simp [codeAmong] at z⟩
  · rw [e]
    intro ad' H' v l R r
    cases r
    exact hQ H'
/-- a def that makes lambdas, by its own function object -/
theorem fn_sameL {m : Mo} {T : Tab} {k : Nat} {x qual : Str} {st : Stmt} {f cc : Addr} {fd : FuncData} {N ps : List Str} {fb : Slots → M Fl} (F : Fun m.K x qual st f fd) (hcode : fd.code = .ref cc) (S : FnScope N ps (defScope st))
    (h : SSs m T k true true (defScope st) N (owL N (qual ++ ".<locals>.") cc) (defBody st) fb) : FnOk m.P m.w m.K m.mg m.base (CX m.P m.w) (k + 1) f fd ps (spM T m.K (bodyM N.length ps.length fb)) := by
  have len : ∀ ws S, ws.length ≠ ps.length → bodyM N.length ps.length fb ws S = .bad := fun ws S hn => by unfold bodyM; rw [if_neg hn]
  obtain ⟨oc, od, kV, doc, pm, an, cdv, ct, osl, rfl, lk, hcd⟩ := F.ex
  refine fn_of lk hcd S (fun vs H Q E hsp => ?_) fun A outer s H vs Q E hr hsp => ?_
  · obtain ⟨ad, S, ws, R, r, h⟩ := hsp
    rw [← r.length]
    apply Classical.byContradiction
    intro hn
    exact not_bad h (len ws S hn)
  · obtain ⟨ad, S0, ws, R, r, hh⟩ := hsp
    have hl : ws.length = ps.length := Classical.byContradiction fun hn => not_bad hh (len ws S0 hn)
    have g : Good m k true true (defScope st) N (owL N (qual ++ ".<locals>.") cc) (cxOf (CX m.P m.w) m.P m.w m.K m.mg m.base N qual (defScope st) f cdv A outer s H E) :=
      ⟨rfl, rfl, rfl, S.nd, fun _ => rfl, fun _ => hr, hr.units, passes_of rfl, fun _ _ => rfl, ⟨hcode, rfl⟩, fun _ => ⟨rfl, rfl⟩⟩
    refine ⟨_, h _ g _ (takes_of rfl rfl rfl rfl), ad, S0, _, R, RelSl.start (N := N) r, ?_⟩
    unfold bodyM at hh
    rw [if_pos hl] at hh
    cases q : fb (ws.map some ++ List.replicate (N.length - ws.length) none) S0 with
    | ok fl S1 =>
      rw [q] at hh
      cases fl with
      | nx sl => exact fun ad' H' σ' l R' L' => hh ad' H' .non l R' .non
      | rt w => exact hh
      | bk sl => exact hh.elim
      | ct sl => exact hh.elim
      | xx x sl => exact fun ad' H' cls d σ' l R' x' L' => hh ad' H' cls d l R' x'
    | ex x S1 => rw [q] at hh; exact hh.elim
    | bad => rw [q] at hh; exact hh.elim
/-- the code object that stands at c, its table at P, by what is written -/
theorem codeHd_of {K : PySem.W.Frag} {h : Heap} {c P : Addr} {o : Obj} {vs : Array Value} (X : K.In h) (lk : K.lookup c = some o) (hc : o.cls = .type "code") (hd : o.data = .fields vs) (hP : vs[11]? = some (.ref P)) (ne : c ≠ P)
    (h18 : ∃ file tf, vs.getD 18 .none = .str file tf) (h7 : ∃ flags tg, vs.getD 7 .none = .int flags tg) (h9 : ∃ inF, vs.getD 9 .none = .bool inF) (h10 : ∃ text tt, vs.getD 10 .none = .int text tt) : PySem.W.CodeHd h c P := by
  obtain ⟨file, tf, h18⟩ := h18
  obtain ⟨flags, tg, h7⟩ := h7
  obtain ⟨inF, h9⟩ := h9
  obtain ⟨text, tt, h10⟩ := h10
  exact ⟨o, vs, file, tf, flags, tg, inF, text, tt, X c o lk, hc, hd, hP, by rw [Array.getD_eq_getD_getElem?, hP]; rfl, h18, h7, h9, h10, ne⟩
end RP

/-! RpBA: list.count in an except suite; a def's try by its places -/
namespace RP
open PySem L2
section
variable {m : Mo} {T : Tab} {k : Nat} {c t : Bool} {sc : Scope} {N : List Str}
theorem m_countE {T0 : Tab} {a : Addr} {cc : Nat} {d : Option (Addr × List (Str × V))} {l : List Str} : SM m T k c t sc N (owE T0 l a cc d) "list.count" countM := m_countG fun X g => by
  obtain ⟨_, _, _, _, _, _, h⟩ := g.xi
  exact h
end
def trySuite : List Stmt → List Stmt
  | .Try _ [.ExceptHandler _ _ s _] _ _ _ :: _ => s
  | _ => []
def tryRest : List Stmt → List Stmt
  | _ :: r => r
  | [] => []
end RP

/-! RpBB: set(a text) -/
namespace RP
open PySem L2 PySem.Spec PyProof.Rows
section
variable {K : Type} [DecidableEq K] [BEq K] [LawfulBEq K] {pr : Program} {wo : World} {knd : KeyKind pr wo K}
set_option maxHeartbeats 4000000 in
theorem setOfText {A : Around} {E : Value → Shared → Prop} {s : Shared} {x : Str} {tx : Tok} {Q : Value → Shared → Prop} (hh : A.handled = none) (ks : Nat → K) (isk : ∀ i v, SignAt x i v → knd.is (ks i) v = true ∧ v.scannable = true) (hb : x.cps.size + 1 < scanBound)
    (fin : ∀ (h2 : Heap) (tk : Nat), h2.SetOf knd s.heap.objs.size (fun k => (metK ks x.cps.size).any (· == k)) (metK ks x.cps.size).length →
      (∀ b o, b < s.heap.objs.size → s.heap.get? b = some o → h2.get? b = some o) → Q (.ref s.heap.objs.size) { s with heap := h2, toks := tk }) :
    wpAny (model pr wo) A (call (.type "set") [.str x tx]) Q E s := by
  obtain ⟨c0, c1, mro⟩ := PySem.F.called_set.mro
  have x1 := PySem.F.called_set.made
  have x2 := PySem.F.called_set.sub
  apply wpAny_call
  apply codeAny_of_tree
  show wpAny _ _ (callAny (.type "set") _) _ _ _
  refine wpAny_pure ⟨Code.quiet_builtin _ (by decide +kernel), ?_⟩
  apply codeAny_builtin PySem.F.entry_type_call
  rw [Around.under_plain (weight_type_call_type "set" [.str x tx] []) rfl]
  have x3 := PySem.F.called_set.notType
  have x4 := PySem.F.called_set.canCreate
  have x5 := PySem.F.typeCall_set_1 (.str x tx)
  repeat (any_goals (first | assumption | wp_step))
  refine codeAny_mono (code_set_new_1 (.str x tx) (E := E) (Q₁ := fun ob z => ∃ led : Bool, ob = .ref s.heap.objs.size ∧ z = { s with heap := s.heap.push { cls := .type "set", dict := none, data := .set #[] 0 (.fresh 0 0 led) } }) fun led => ⟨led, rfl, rfl⟩) fun r z hr => ?_
  cases r with
  | error e => exact hr
  | ok fl =>
    cases fl with
    | ret ob =>
      obtain ⟨led, rfl, rfl⟩ := hr
      generalize hne : ({ cls := .type "set", dict := none, data := .set #[] 0 (.fresh 0 0 led) } : Obj) = new
      have gS : (s.heap.push new).get? s.heap.objs.size = some new := Heap.get?_push_size _ (by rw [← hne]; rfl)
      have gT : Shared.TypeIs { s with heap := s.heap.push new } (.ref s.heap.objs.size) "set" := ⟨_, gS, by rw [← hne]⟩
      have y1 := PySem.F.called_set.init.lookup
      have y2 := PySem.F.called_set.init.bind (.ref s.heap.objs.size)
      repeat (any_goals (first | assumption | wp_step))
      refine codeAny_mono (codeAny_call_builtin (R := wants (fun r z => r = .none ∧ ∃ h2 tk, z = { s with heap := h2, toks := tk } ∧ h2.SetOf knd s.heap.objs.size (fun k => (metK ks x.cps.size).any (· == k)) (metK ks x.cps.size).length ∧
          (∀ b o, b < s.heap.objs.size → s.heap.get? b = some o → h2.get? b = some o)) E) PySem.F.called_set.init.plain PySem.F.entry_set_init (check_set_init_1 gT ?_)) fun r2 z2 hr2 => ?_
      · have sz1 : (s.heap.push new).objs.size = s.heap.objs.size + 1 := Heap.size_push ..
        have nf : s.heap.objs.size ∉ [(s.heap.push new).objs.size] := by
          simp only [List.mem_cons, List.not_mem_nil, or_false]
          rw [sz1]; exact Nat.ne_of_lt (Nat.lt_succ_self _)
        have w1 := PySem.F.sub_str_set
        have w2 := PySem.F.sub_str_frozenset
        have w3 : (Value.type "str" == Value.type "dict") = false := by decide
        subst hne
        unfold Builtin.«set.__init__» noKeywords Builtin.Frozenset.updateFrom
        generalize hpi : pyIter = PI
        wp_walk
        subst hpi
        refine wpAny_pyIter_str fun oi St Wk st0 => ?_
        apply wpAny_bind
        apply wpAny_runValue
        have h3 : A.in1.in1.in1.handled = none := by simp [hh]
        refine setLoop (knd := knd) ((Wk _ h3).toS) nf ks isk hb x.cps.size 0 _ (by omega) st0 ?_ ?_
        · have g0 := Heap.get?_push_of_some oi gS
          exact SetOf_congr ((setObjOf_fresh (knd := knd) led).setOf g0 (by unfold scanBound; omega)) (fun _ => rfl) rfl
        · intro s9 mv hs9
          obtain ⟨h9, g9, d9, t9, o9⟩ := s9
          have eg : g9 = s.gens := mv.gens
          have ed : d9 = s.drawn := mv.drawn
          have eo : o9 = s.os := mv.os
          subst eg ed eo
          refine wpAny_pure ?_
          show wpAny _ _ (PySem.ret Value.none) _ _ _
          have sz2 := sz1
          refine wpAny_pure ⟨rfl, h9, t9, rfl, hs9, fun b o hb e => mv.heap b o ?_ (Heap.get?_push_of_some _ (Heap.get?_push_of_some _ e))⟩
          simp only [List.mem_cons, List.not_mem_nil, or_false, not_or]
          exact ⟨Nat.ne_of_lt hb, by rw [sz2]; exact Nat.ne_of_lt (Nat.lt_succ_of_lt hb)⟩
      · cases r2 with
        | error e => exact hr2
        | ok f2 =>
          cases f2 with
          | ret r =>
            obtain ⟨rfl, h2, tk, rfl, k1, k2⟩ := hr2
            repeat (any_goals (first | assumption | wp_step))
            exact fin _ _ k1 k2
          | _ => exact hr2.elim
    | _ => exact hr.elim
end
end RP

/-! RpBC: len(set(a text)) -/
namespace RP
open PySem L2 PySem.Spec PyProof.Rows
def signsOf (z : Str) : List Str := z.cps.toList.map fun c => (⟨#[c]⟩ : Str)
theorem signsOf_len (z : Str) : (signsOf z).length = z.cps.size := by unfold signsOf; rw [List.length_map, Array.length_toList]
def iLenSetT (ta : TE) : TE := fun σ H Q => ta σ H fun x H1 => ∃ z : Str, x = .str z ∧ z.cps.size ≤ 4000 ∧ Q (.int ((onceS (signsOf z)).length : Nat)) H1
theorem pe_lenSetT {X : Cx} {a : Expr} {ta : TE} {p p2 q pos : Pos} (hg : Gl X "len") (hm : X.mg "len" = none) (hg2 : Gl X "set") (hm2 : X.mg "set" = none) (ha : PE X a ta) (hc : X.calm = true)
    (na : starEach [a] X.env = (false, eval a X.env) :: starEach [] X.env) : PE X (.Call (.Name "len" p) [.Call (.Name "set" p2) [a] [] q] [] pos) (iLenSetT ta) := by
  refine ⟨fun pins s σ H Q I h => ?_⟩
  refine Call_ (ld_blt I hg hm boot_len ?_)
  refine PyProof.Rows.callWith_builtin1 (PyProof.Rows.args_cons ?_ rfl) rfl rfl
  refine Call_ (ld_blt I hg2 hm2 boot_set ?_)
  refine PyProof.Rows.callWith_type1 (PyProof.Rows.args_cons (thn (ha.run pins s σ H _ I h) fun v st ⟨x, H1, I1, rx, qx⟩ => PyProof.Rows.args_nil ?_) na) na rfl
  obtain ⟨z, rfl, hl, qx⟩ := qx
  obtain ⟨tz, rfl⟩ := rx
  have hlen := signsOf_len z
  refine setOfText (knd := strKind X.prog X.w) (I1.ok.hd hc) (fun i => (signsOf z).getD i Str.empty) (fun i v hv => ?_) (by unfold scanBound; omega) fun h1 tk hS hk => ?_
  · obtain ⟨c, u, hc', rfl⟩ := hv
    have e : (signsOf z).getD i Str.empty = ⟨#[c]⟩ := by
      unfold signsOf
      rw [List.getD_eq_getElem?_getD, List.getElem?_map, Array.getElem?_toList, hc']
      rfl
    rw [e]
    exact ⟨strKind_is _ _ _ _, rfl⟩
  · refine PyProof.Rows.args_nil ?_
    rw [← hlen] at hS
    obtain ⟨o, es, ep, t, ho, hex, hd, _, _, _, hf, hn⟩ := hS
    have I2 : Inv X pins σ H1 { st with heap := h1, toks := tk } := I1.kept fun b o e => hk b o (Heap.lt_size e) e
    exact call_len_set ho hex hd hf (by rw [hn]; have := metK_le (fun i => (signsOf z).getD i Str.empty) (signsOf z).length; omega) ⟨.int (onceS (signsOf z)).length, H1, I2.tok _, ⟨_, by rw [hn]; rfl⟩, qx⟩
section
variable {m : Mo} {T : Tab} {k : Nat} {c t : Bool} {sc : Scope} {N : List Str} {ow : Ow} {a : Expr} {fa : Slots → M W}
def lenSetTM (w : W) : M W := fun S => match w with
  | .str z => if z.cps.size ≤ 4000 then .ok (.int ((onceS (signsOf z)).length : Nat)) S else .bad
  | _ => .bad
theorem e_lensetT {p p2 q pos : Pos} (hc : c = true) (hl : m.mg "len" = none) (hs : m.mg "set" = none) (ha : SE m T k c t sc N ow a fa) (gl : sc.names.lookup ("len" : Str) = some .globalImplicit := by rfl) (gs : sc.names.lookup ("set" : Str) = some .globalImplicit := by rfl)
    (na : ∀ env, starEach [a] env = (false, eval a env) :: starEach [] env := by intro _; rfl) : SE m T k c t sc N ow (.Call (.Name "len" p) [.Call (.Name "set" p2) [a] [] q] [] pos) (fun sl => bd (fa sl) lenSetTM) := fun X g Wx tk => by
  have em : X.mg = m.mg := by rw [← g.mo]; rfl
  refine (pe_lenSetT (p := p) (p2 := p2) (q := q) (pos := pos) (gl_of g gl) (by rw [em]; exact hl) (gl_of g gs) (by rw [em]; exact hs) (ha X g Wx tk) (g.calm hc) (na _)).imp fun σ H Q h => ?_
  obtain ⟨ad, S, sl, R, L, h⟩ := h
  refine ⟨ad, S, sl, R, L, run_imp (run_bd h) ?_⟩
  rintro v H1 ⟨ad1, S1, w1, l1, R1, r1, h1⟩
  unfold lenSetTM at h1
  split at h1
  · split at h1
    · rename_i hz
      cases r1
      exact ⟨_, rfl, hz, run_ok R1 (.int _) h1⟩
    · exact h1.elim
  · exact h1.elim
end
end RP

/-! RpBD: raise of a class whose __init__ is B.__init__(self, f"..{p}"); self.p = p -/
namespace RP
open PySem L2
theorem pe_binit {X : Cx} {CB : Addr} {mc : Value} {e : Expr} {es : List Expr} {ta : TA} {p1 p2 pos : Pos} {pl : Sem Bool} (hg : Gl X "BathError") (hm : X.mg "BathError" = some (.ref CB)) (r : ClX.CRead X.K CB mc) (vV : PySem.W.findCls X.K (.ref CB) mc "__init__" = some (.val (.builtin "ValueError.__init__"))) (ha : PA X (e :: es) ta)
    (hc : eval (.Call (.Attribute (.Name "BathError" p1) "__init__" p2) (e :: es) [] pos) X.env = (do
      let ov ← eval (.Name "BathError" p1) X.env
      standAt p2.atName
      let (f, first) ← holding [ov] (getMethod ov "__init__" pl)
      callWith pos f first (backTo pos (starEach (e :: es) X.env)) (backToKw pos (keywordEach [] X.env))) := by rfl)
    (he : starEach (e :: es) X.env = (false, eval e X.env) :: starEach es X.env := by rfl) (hpl : (backTo pos (starEach es X.env)).any (·.1) = false := by rfl) :
    PE X (.Call (.Attribute (.Name "BathError" p1) "__init__" p2) (e :: es) [] pos) (tVeI X.K ta) := by
  refine ⟨fun pins s σ H Q I h => ?_⟩
  refine PySem.W.methodCall_KW (ld_glob I hg hm ?_) hc
  refine PySem.W.method_cls I.kIn r.ga (PySem.W.cls_value I.kIn r.rd vV (by decide +kernel) ?_)
  show wpAny _ _ (callWith pos (Value.builtin "ValueError.__init__") [] (backTo pos (starEach (e :: es) X.env)) []) _ _ _
  refine PyProof.Rows.callWith_method1 (thn (ha.run pos pins _ σ H _ (I.tok _) h) fun us s1 ⟨vs, H1, I1, r1, a, C, ws, ev, hl, T, ea, q⟩ => ?_) he hpl
  subst ev
  cases r1 with
  | @cons _ u0 _ ur ra rw' =>
    obtain rfl : u0 = Value.ref a := ra
    have hlen : ur.length ≤ sizeLine := by
      rw [← Paired.length rw', sizeLine_eq]
      omega
    exact oinit_ok T I1 ea hlen fun s' J => ⟨.non, H1, J, rfl, q⟩
def okF : W → Bool
  | .str z => decide (z.length ≤ 1000)
  | .int i => decide (0 ≤ i ∧ i < 100)
  | _ => false
def okV : V → Bool
  | .str z => decide (z.length ≤ 1000)
  | .int i => decide (0 ≤ i ∧ i < 100)
  | _ => false
/-- what such an __init__ keeps -/
def spI (K : PySem.W.Frag) (C : Addr) (f : Str) : Sp := fun vs H Q _ => ∃ (a : Addr) (v : V), vs = [.ref a, v] ∧ okV v = true ∧ OexC K C ∧ PySem.W.findIn K (.ref C) f = some none ∧ H a = some (exo a C none) ∧
  ∀ dx, H dx = none → dx ≠ a → Q .non (upd (upd H dx (exd dx [(f, v)])) a (exo a C (some dx)))
theorem int_short : ∀ n : Nat, n < 100 → (Str.ofString (toString (n : Int))).length ≤ 10 := by decide +kernel
theorem fn_init {m : Mo} {k : Nat} {C CB : Addr} {mc : Value} {qual pn fld z0 : Str} {j : Nat} {st : Stmt} {f : Addr} {fd : FuncData} {p1 p2 p3 q1 q2 q3 q4 q5 q6 q7 q8 q9 q10 : Pos} (F : Fun m.K "__init__" qual st f fd) (S : FnScope [("self" : Str), pn] [("self" : Str), pn] (defScope st))
    (hst : defBody st = [.Expr (.Call (.Attribute (.Name "BathError" p1) "__init__" p2) [.Name "self" p3, .JoinedStr [.Constant (.str z0) j q1, .FormattedValue (.Name pn q2) (-1) none q3] q4] [] q5) q6, .Assign [.Attribute (.Name "self" q7) fld q8] (.Name pn q9) q10])
    (hB : m.mg "BathError" = some (.ref CB)) (hgB : (defScope st).names.lookup ("BathError" : Str) = some .globalImplicit) (r : ClX.CRead m.K CB mc) (vV : PySem.W.findCls m.K (.ref CB) mc "__init__" = some (.val (.builtin "ValueError.__init__")))
    (hv0 : Vis (defScope st) "self") (hv1 : Vis (defScope st) pn) (hd1 : (pn == ("__debug__" : Str)) = false) (hc1 : (pn == ("__classdict__" : Str)) = false) (hz : z0.length ≤ 1000)
    (hcall : ∀ env : Env, ∃ pl : Sem Bool, eval (.Call (.Attribute (.Name "BathError" p1) "__init__" p2) [.Name "self" p3, .JoinedStr [.Constant (.str z0) j q1, .FormattedValue (.Name pn q2) (-1) none q3] q4] [] q5) env = (do
      let ov ← eval (.Name "BathError" p1) env
      standAt p2.atName
      let (f, first) ← holding [ov] (getMethod ov "__init__" pl)
      callWith q5 f first (backTo q5 (starEach [.Name "self" p3, .JoinedStr [.Constant (.str z0) j q1, .FormattedValue (.Name pn q2) (-1) none q3] q4] env)) (backToKw q5 (keywordEach [] env)))) :
    FnOk m.P m.w m.K m.mg m.base (CX m.P m.w) (k + 1) f fd [("self" : Str), pn] (spI m.K C fld) := by
  have hz2 := sizeLine_big
  obtain ⟨oc, od, kV, doc, pm, an, cdv, ct, osl, rfl, lk, hcd⟩ := F.ex
  refine fn_of lk hcd S (fun vs H Q E hsp => ?_) fun A outer s H vs Q E hr hsp => ?_
  · obtain ⟨a, v, rfl, _⟩ := hsp
    rfl
  · obtain ⟨a, v, rfl, hov, T, hno, ea, hQ⟩ := hsp
    have g : Good m k true true (defScope st) [("self" : Str), pn] (ow0 [("self" : Str), pn]) (cxOf (CX m.P m.w) m.P m.w m.K m.mg m.base [("self" : Str), pn] qual (defScope st) f cdv A outer s H E) :=
      ⟨rfl, rfl, rfl, S.nd, fun _ => rfl, fun _ => hr, hr.units, passes_of rfl, fun _ _ => rfl, trivial, fun _ => ⟨rfl, rfl⟩⟩
    rw [hst]
    generalize hX : (cxOf (CX m.P m.w) m.P m.w m.K m.mg m.base [("self" : Str), pn] qual (defScope st) f cdv A outer s H E) = X at g ⊢
    have eK : X.K = m.K := by subst hX; rfl
    have eM : X.mg = m.mg := by subst hX; rfl
    have eN : X.N = [("self" : Str), pn] := by subst hX; rfl
    have eS : X.env.scope = defScope st := by subst hX; rfl
    obtain ⟨pl, hcall⟩ := hcall X.env
    refine ⟨_, pss_cons (ps_expr (pe_binit (gl_of g hgB) (by rw [eM]; exact hB) (by rw [eK]; exact r) (by rw [eK]; exact vV) (pa_cons (pe_var (i := 0) (by rw [eN]; rfl) (by rw [eS]; exact hv0)) (pa_cons (pe_joined (PJ.cons pe_str (PJ.cons (pe_fmt (pe_var (i := 1) (by rw [eN]; rfl) (by rw [eS]; exact hv1) hd1 hc1)) PJ.nil))) pa_nil)) hcall))
      (pss_one (ps_ost (pe_var (i := 0) (by rw [eN]; rfl) (by rw [eS]; exact hv0)) (pe_var (i := 1) (by rw [eN]; rfl) (by rw [eS]; exact hv1) hd1 hc1))), ?_⟩
    have l0 : (Str.empty ++ z0).length ≤ sizeLine := by
      show (#[] ++ z0.cps).size ≤ _
      have : z0.cps.size ≤ 1000 := hz
      simp
      omega
    have l1 : ∀ y : Str, y.length ≤ 1000 → (Str.empty ++ z0 ++ y).length ≤ sizeLine := fun y hy => by
      show (#[] ++ z0.cps ++ y.cps).size ≤ _
      have : z0.cps.size ≤ 1000 := hz
      have : y.cps.size ≤ 1000 := hy
      simp
      omega
    have fin : ∀ y : Str, y.length ≤ 1000 → tOst X.K fld (tVar 0) (tVar 1) { nx := fun _ H' => Q .non H', rt := Q } (start [("self" : Str), pn] [.ref a, v]) H := fun y hy =>
      ⟨v, rfl, .ref a, rfl, a, C, rfl, by rw [eK]; exact T, by rw [eK]; exact hno, .inl ⟨ea, fun dx n ne => hQ dx n ne⟩⟩
    refine ⟨.ref a, rfl, z0, rfl, l0, v, rfl, ?_⟩
    cases v with
    | str y =>
      have hy : y.length ≤ 1000 := of_decide_eq_true hov
      exact .inl ⟨y, rfl, by omega, y, rfl, l1 y hy, a, C, _, rfl, by simp, by rw [eK]; exact T, ea, fin y hy⟩
    | int i =>
      obtain ⟨h0, h1⟩ := of_decide_eq_true hov
      obtain ⟨n, rfl⟩ := Int.eq_ofNat_of_zero_le h0
      have hy := int_short n (by omega)
      refine .inr ⟨_, rfl, ?_, _, rfl, l1 _ (by omega), a, C, _, rfl, by simp, by rw [eK]; exact T, ea, fin _ (by omega)⟩
      have : ∀ n : Nat, n < 100 → (n : Int).natAbs.log2 < 1920 := by decide +kernel
      exact this n (by omega)
    | _ => cases hov
/-- an own exception class with such an __init__ -/
structure XfOk (m : Mo) (T : Tab) (k cc : Nat) (x : Str) : Prop where
  ex : OexC m.K (T.cls cc)
  mg : m.mg x = some (.ref (T.cls cc))
  ini : ∃ (fI : Addr) (fd : FuncData) (fld : Str) (ps : List Str), T.fl cc = [fld] ∧ PySem.W.findIn m.K (.ref (T.cls cc)) fld = some none ∧ PySem.W.findIn m.K (.ref (T.cls cc)) "__init__" = some (some (.ref fI)) ∧ PySem.W.typeIn m.K (.ref fI) = some (.type "function") ∧
    Binds m.K fd ps [] ∧ FnOk m.P m.w m.K m.mg m.base (CX m.P m.w) k fI fd ps (spI m.K (T.cls cc) fld)
theorem okF_v {K : PySem.W.Frag} {ad : List Addr} {H : Hp} {w : W} {v : V} (h : okF w = true) (r : RelW K ad H w v) : okV v = true ∧ ∀ ad' H', RelW K ad' H' w v := by
  cases w with
  | str z => cases r; exact ⟨h, fun _ _ => .str _⟩
  | int i => cases r; exact ⟨h, fun _ _ => .int _⟩
  | _ => cases h
section
variable {m : Mo} {T : Tab} {k : Nat} {c t : Bool} {sc : Scope} {N : List Str} {ow : Ow}
theorem s_raiseF {x : Str} {e : Expr} {fe : Slots → M W} {kf : Nat} {p pos pos' : Pos} (hc : c = true) (cc : Nat) (P : XfOk m T kf cc x) (hk : kf + 1 ≤ k) (he : SE m T k c t sc N ow e fe) (hg : sc.names.lookup x = some .globalImplicit := by rfl) (hdb : (x == ("__debug__" : Str)) = false := by decide)
    (h1 : ∀ env, starEach [e] env = (false, eval e env) :: starEach [] env := by intro _; rfl) :
    SS m T k c t sc N ow (.Raise (some (.Call (.Name x p) [e] [] pos)) none pos') (fun sl => exS sl (fe sl) fun w S => if okF w = true then .ok (.xx ⟨cc, [w]⟩ sl) S else .bad) := fun X g Wx tk => by
  have em : X.mg = m.mg := by rw [← g.mo]; rfl
  have ek : X.K = m.K := by rw [← g.mo]; rfl
  obtain ⟨fI, fd, fld, ps, f1, f2, f3, f4, f5, f6⟩ := P.ini
  have F : FnOk X.prog X.w X.K X.mg X.base (CX m.P m.w) kf fI fd ps (spI m.K (T.cls cc) fld) := by
    rw [← g.mo] at f6 ⊢
    exact f6
  refine (ps_raise (g.calm hc) tk (pmk_oex (X := X) (by rw [ek]; exact P.ex) (by rw [ek]; exact f3) (by rw [ek]; exact f4) F ((g.room hc).mono hk) (by rw [ek]; exact f5) .nil (fun pins σ H s u s' I z => (cx_no z).elim) (gl_of g hg) (by rw [em]; exact P.mg) (pa_cons (he X g Wx tk) pa_nil (h1 _)) hdb (h1 _))).imp fun D σ H h => ?_
  obtain ⟨ad, S, sl, R, L, h⟩ := h
  refine ⟨ad, S, sl, R, L, run_imp (run_exS L h) ?_⟩
  rintro v H1 ⟨ad1, S1, w1, l1, R1, r1, h2⟩
  by_cases hw : okF w1 = true
  · rw [if_pos hw] at h2
    obtain ⟨hv, hrel⟩ := okF_v hw r1
    refine ⟨by simp, fun a na => ⟨a, v, rfl, hv, by rw [← ek]; rw [ek]; exact P.ex, f2, upd_same, fun dx ndx nda => ⟨rfl, dx, [(fld, v)], ?_, ?_, ?_, ?_⟩⟩⟩
    · exact upd_same
    · rw [upd_ne nda, upd_same]
    · rw [upd_ne nda] at ndx
      exact ndx
    · have hdx1 : H1 dx = none := by rw [upd_ne nda] at ndx; exact ndx
      have sm : Same H1 (upd (del (upd (upd (upd H1 a (exo a (T.cls cc) none)) dx (exd dx [(fld, v)])) a (exo a (T.cls cc) (some dx))) a) dx (.xd [(fld, v)])) := fun b o e => by
        have n1 : b ≠ a := fun z => by rw [z, na] at e; cases e
        have n2 : b ≠ dx := fun z => by rw [z, hdx1] at e; cases e
        rw [upd_ne n2, del_ne n1, upd_ne n1, upd_ne n2, upd_ne n1]
        exact e
      have le : Le m.K ad1 H1 ad1 _ := Le.same0 sm
      refine h2 ad1 _ _ _ σ le (R1.same sm) ⟨rfl, dx, [v], rfl, ?_, ?_, .cons (hrel _ _) .nil⟩ ((L.mono l1).mono le)
      · rw [f1, upd_same]
        rfl
      · rw [f1]
        rfl
  · rw [if_neg hw] at h2
    exact h2.elim
end
def oexB (K : PySem.W.Frag) (C : Addr) : Bool := match K.lookup C with
  | some ⟨.type "type", _, .cls cd, sl⟩ => (match cd.mro, sl.toList with
    | .ref C' :: bm, [_, _, _, _, some (.builtin n), _] => C' == C && n == "ValueError.__new__" && !cd.hasDel && cd.hasDict && PySem.HandSPX.refsVE bm
    | _, _ => false)
  | _ => false
theorem oexB_cls {K : PySem.W.Frag} {C : Addr} (q : oexB K C = true) : ∃ nm q' N bs bm sn sub ab col dd k0 k1 k2 k3 k5, K.lookup C = some (excClassObj nm q' C N bs bm true sn sub ab col dd k0 k1 k2 k3 k5 "ValueError.__new__") ∧ PySem.HandSPX.refsVE bm = true := by
  unfold oexB at q
  split at q
  · rename_i dd cd sl ho
    split at q
    · rename_i C' bm k0 k1 k2 k3 n k5 hm hs
      simp only [Bool.and_eq_true, beq_iff_eq, Bool.not_eq_true'] at q
      obtain ⟨⟨⟨⟨rfl, rfl⟩, hdel⟩, hd⟩, ht⟩ := q
      obtain ⟨nm, bs, mro, ns, qn, hd', sn, sub, ab, col, del⟩ := cd
      dsimp only at hm hdel hd
      subst hm hdel hd
      have hsl : sl = #[k0, k1, k2, k3, some (.builtin "ValueError.__new__"), k5] := by
        obtain ⟨l⟩ := sl
        simp only at hs
        rw [hs]
      subst hsl
      exact ⟨_, _, _, _, _, _, _, _, _, _, _, _, _, _, _, ho, ht⟩
    · cases q
  · cases q
end RP

/-! RpBE: an expression that needs no object of the state: worked out over the empty state -/
namespace RP
open PySem L2
mutual
def noRef : W → Bool
  | .ref _ => false
  | .lam _ _ _ => false
  | .tup ws => noRefs ws
  | .non => true
  | .bl _ => true
  | .int _ => true
  | .str _ => true
  | .adr _ => true
  | .ty _ => true
def noRefs : List W → Bool
  | [] => true
  | w :: ws => noRef w && noRefs ws
end
section
variable {K : PySem.W.Frag} {ad ad' : List Addr} {H : Hp}
mutual
theorem noRef_rel : ∀ {w : W} {v : V}, noRef w = true → RelW K ad H w v → RelW K ad' H w v
  | _, _, _, .non => .non
  | _, _, _, .bl b => .bl b
  | _, _, _, .int b => .int b
  | _, _, _, .str b => .str b
  | _, _, h, .tup s r => .tup s (noRefs_rel h r)
  | _, _, h, .ref e => by cases h
  | _, _, _, .adr a => .adr a
  | _, _, _, .ty n => .ty n
  | _, _, h, .lam e n => by cases h
theorem noRefs_rel : ∀ {ws : List W} {vs : List V}, noRefs ws = true → RelWs K ad H ws vs → RelWs K ad' H ws vs
  | _, _, _, .nil => .nil
  | _, _, h, .cons r t => by
    unfold noRefs at h
    rw [Bool.and_eq_true] at h
    exact .cons (noRef_rel h.1 r) (noRefs_rel h.2 t)
end
def isoSl (sl : Slots) : Slots := sl.map fun o => match o with
  | some w => if noRef w then some w else none
  | none => none
theorem isoSl_rel {sl : Slots} {σ : St} (L : RelSl K ad H sl σ) : RelSl K ad' H (isoSl sl) σ := by
  refine ⟨by unfold isoSl; rw [List.length_map, L.len], fun i w e => ?_⟩
  unfold isoSl at e
  rw [List.getElem?_map] at e
  cases q : sl[i]? with
  | none => rw [q] at e; cases e
  | some o =>
    rw [q] at e
    cases o with
    | none => cases e
    | some u =>
      have e : (if noRef u = true then some u else none) = some w := by injection e
      by_cases h : noRef u = true
      · rw [if_pos h] at e
        cases e
        obtain ⟨v, h1, h2⟩ := L.get i _ q
        exact ⟨v, h1, noRef_rel h h2⟩
      · rw [if_neg h] at e
        cases e
end
/-- a computation apart from the state -/
def isoM (f : Slots → M W) : Slots → M W := fun sl S => match f (isoSl sl) [] with
  | .ok w _ => if noRef w = true then .ok w S else .bad
  | .ex x _ => if noRefs x.fs = true then .ex x S else .bad
  | .bad => .bad
/-- no code object is an object of a state -/
def NC (H : Hp) : Prop := ∀ (T : Tab) (K : PySem.W.Frag) (ad : List Addr) (S : Sto), Rel T K ad H S → ∀ (c : Addr) (q : Str), H c = some (LamX.CodeO c q) → c ∉ ad
theorem nc_of {X : Cx} {pins : List (Addr × Obj)} {σ : St} {H : Hp} {s : Shared} (I : Inv X pins σ H s) : NC H := fun T K ad S R c q h => no_code I R h
theorem takes_nc {X : Cx} {W : WX} (h : Takes X W) : Takes X fun c d σ H => NC H → W c d σ H := fun u s' ⟨a, B, sI, pins, σ, H, cls, d, e, I, nb, up, sky, na, os, ag, w⟩ =>
  h u s' ⟨a, B, sI, pins, σ, H, cls, d, e, I, nb, up, sky, na, os, ag, w (nc_of I)⟩
theorem rel_iso {T : Tab} {K : PySem.W.Frag} {ad ad' : List Addr} {H H' : Hp} {S S' : Sto} (R : Rel T K ad H S) (l : Le K [] H ad' H') (R' : Rel T K ad' H' S') (nc : NC H') : Rel T K ad H' S ∧ Le K ad H ad H' := by
  have le : Le K ad H ad H' := ⟨List.prefix_rfl, l.fwd, fun b hb n => absurd hb n, fun b o e k _ => l.frm b o e k (by simp), l.xd, l.own⟩
  have kp : ∀ b o, H b = some o → Keen o → H' b = some o := fun b o e k => l.frm b o e k (by simp)
  have ob : ∀ (i : Nat) (a : Addr) (o : Ob), ad[i]? = some a → S[i]? = some o → RelOb T K ad H' a o := fun i a o h1 h2 => by
    have r := R.ob i a o h1 h2
    cases o with
    | lst ws => obtain ⟨vs, h1, h2⟩ := r; exact ⟨vs, kp _ _ h1 trivial, h2.mono le⟩
    | scr ns =>
      rcases r with h1 | ⟨o, h1⟩
      · exact .inl (kp _ _ h1 trivial)
      · exact .inr ⟨o, kp _ _ h1 trivial⟩
    | ins c ws => obtain ⟨dx, vs, h1, h2, h3⟩ := r; exact ⟨dx, vs, kp _ _ h1 trivial, h2, h3.mono le⟩
    | slo c ws =>
      obtain ⟨dx, vs, h1, h2, h4', h3⟩ := r
      refine ⟨dx, vs, ?_, h2, ?_, h3.mono le⟩
      rotate_left
      · rcases h4' with q | q
        · exact l.own _ _ q
        · exact .inr (l.xd _ q)
      rcases h1 with ⟨h1, h4⟩ | ⟨h1, h4⟩
      · exact .inl ⟨kp _ _ h1 trivial, h4⟩
      · exact .inr ⟨kp _ _ h1 trivial, l.xd _ h4⟩
    | dct kvs => obtain ⟨vs, h1, h2⟩ := r; exact ⟨vs, kp _ _ h1 trivial, h2.mono le⟩
  have R1 : Rel ⟨T.cls, T.fl, [], []⟩ K ad H' S := ⟨R.len, R.nd, fun i a o h1 h2 => by
    have := ob i a o h1 h2
    cases o <;> exact this, fun p hp => (by cases hp), fun p hp => (by cases hp)⟩
  refine ⟨⟨R.len, R.nd, ob, fun p hp => ?_, fun p hp => l.xd _ (R.xds p hp)⟩, le⟩
  obtain ⟨ps, h1, h2, h3⟩ := R'.tabs p hp
  refine ⟨ps, h1, h2, fun pos cv hc => ?_⟩
  obtain ⟨c, e1, e2, _⟩ := h3 pos cv hc
  exact ⟨c, e1, e2, nc _ _ _ _ R1 c _ e2⟩
section
variable {m : Mo} {T : Tab} {k : Nat} {c t : Bool} {sc : Scope} {N : List Str} {ow : Ow}
theorem e_iso {e : Expr} {fe : Slots → M W} (he : SE m T k c t sc N ow e fe) : SE m T k c t sc N ow e (isoM fe) := fun X g Wx tk => by
  have h := he X g _ (takes_nc tk)
  refine ⟨fun pins s σ H Q I hh => ?_⟩
  obtain ⟨ad, S, sl, R, L, hr⟩ := hh
  have R0 : Rel T m.K [] H [] := ⟨rfl, .nil, fun i a o h1 _ => by simp at h1, fun p hp => (R.tabs p hp).go (fun _ e => e) (fun c n e => ⟨e, by simp⟩), R.xds⟩
  unfold isoM at hr
  cases q : fe (isoSl sl) [] with
  | bad => rw [q] at hr; exact hr.elim
  | ok w S' =>
    rw [q] at hr
    simp only at hr
    by_cases hw : noRef w = true
    · rw [if_pos hw] at hr
      refine thn (h.run pins s σ H (fun v H1 => ∃ ad1, Le m.K [] H ad1 H1 ∧ Rel T m.K ad1 H1 S' ∧ RelW m.K ad1 H1 w v) I ⟨[], [], isoSl sl, R0, isoSl_rel L, ?_⟩) ?_
      · rw [q]
        exact fun ad1 H1 v l R1 r1 => ⟨ad1, l, R1, r1⟩
      · rintro u s1 ⟨v, H1, I1, ru, ad1, l, R1, r1⟩
        obtain ⟨R2, l2⟩ := rel_iso R l R1 (nc_of I1)
        exact ⟨v, H1, I1, ru, hr ad H1 v l2 R2 (noRef_rel hw r1)⟩
    · rw [if_neg hw] at hr
      exact hr.elim
  | ex x S' =>
    rw [q] at hr
    simp only at hr
    by_cases hw : noRefs x.fs = true
    · rw [if_pos hw] at hr
      refine thn (h.run pins s σ H (fun _ _ => False) I ⟨[], [], isoSl sl, R0, isoSl_rel L, ?_⟩) ?_
      · rw [q]
        intro ad1 H1 cls d l R1 rx nc
        obtain ⟨R2, l2⟩ := rel_iso R l R1 nc
        refine hr ad H1 cls d l2 R2 ⟨rx.1, ?_⟩
        have rx2 := rx.2
        cases hf : x.fs with
        | nil => rw [hf] at rx2; exact rx2
        | cons w ws =>
          rw [hf] at rx2 hw
          obtain ⟨dd, vs, e1, e2, e3, e4⟩ := rx2
          exact ⟨dd, vs, e1, e2, e3, noRefs_rel hw e4⟩
      · rintro u s1 ⟨v, H1, I1, ru, hF⟩
        exact hF.elim
    · rw [if_neg hw] at hr
      exact hr.elim
end
end RP

/-! P31: the least of a list of data; subsets. -/
namespace RP
open PySem L2
open PySem.W (alike alikeAll dataLt AlikeAll dataLt_tuple dataLt_int dataLt_all_yes dataLt_all_no keyToksAll)
def ltC (l o cs : List Nat) : List Nat := (List.range l.length).map fun i => if i ∈ cs ∧ l.getD i 0 ≠ 46 then l.getD i 0 else o.getD i 0
theorem ltC_len (l o cs : List Nat) : (ltC l o cs).length = l.length := by simp [ltC]
theorem ltC_at {l o cs : List Nat} {i : Nat} (h : i < l.length) : (ltC l o cs)[i]? = some (if i ∈ cs ∧ l.getD i 0 ≠ 46 then l.getD i 0 else o.getD i 0) := by
  unfold ltC
  rw [List.getElem?_map, List.getElem?_range h]
  rfl
theorem lst_ext {l m : List Nat} (hl : l.length = m.length) (h : ∀ i, i < l.length → l[i]? = m[i]?) : l = m := by
  refine List.ext_getElem? fun i => ?_
  by_cases hi : i < l.length
  · exact h i hi
  · rw [List.getElem?_eq_none (by omega), List.getElem?_eq_none (by omega)]
theorem getD_of {l : List Nat} {i c : Nat} (h : l[i]? = some c) : l.getD i 0 = c := by
  rw [List.getD_eq_getElem?_getD, h]
  rfl
def diffs (o g : List Nat) : List Nat := (List.range g.length).filter fun i => decide (o.getD i 0 ≠ g.getD i 0)
theorem diffs_mem {o g : List Nat} {c : Nat} : c ∈ diffs o g ↔ c < g.length ∧ o.getD c 0 ≠ g.getD c 0 := by simp [diffs]
theorem ltC_eq {l o cs g : List Nat} (hg : g.length = l.length) : ltC l o cs = g ↔ ∀ i, i < l.length → (if i ∈ cs ∧ l.getD i 0 ≠ 46 then l.getD i 0 else o.getD i 0) = g.getD i 0 := by
  constructor
  · intro h i hi
    have := ltC_at (o := o) (cs := cs) hi
    rw [h] at this
    exact (getD_of this).symm
  · intro h
    refine lst_ext ((ltC_len _ _ _).trans hg.symm) fun i hi => ?_
    rw [ltC_len] at hi
    rw [ltC_at hi, h i hi, List.getD_eq_getElem?_getD, List.getElem?_eq_getElem (by omega)]
    rfl
theorem need {l o cs g : List Nat} (hg : g.length = l.length) (h : ltC l o cs = g) {c : Nat} (hc : c ∈ diffs o g) : c ∈ cs ∧ l.getD c 0 ≠ 46 ∧ l.getD c 0 = g.getD c 0 := by
  obtain ⟨h1, h2⟩ := diffs_mem.mp hc
  have := (ltC_eq hg).mp h c (by omega)
  split at this
  · rename_i q
    exact ⟨q.1, q.2, this⟩
  · exact absurd this h2
end RP

/-! P50: on how many cells a paper becomes a text; the first of them. -/
namespace RP
open PySem L2
/-! ### the first -/
def gr (l t : List Nat) : Nat → List Nat
  | 0 => []
  | n + 1 => if (gr l t n).length < t.length ∧ t.getD (gr l t n).length 0 = l.getD n 0 then gr l t n ++ [n] else gr l t n
end RP

/-! P07: lists of rows that are joined where neighbours are of one kind, and left out where they are nothing. Plain: no program. -/
namespace RP
/-- a thing of a recipe: a draw of a kind, or another -/
inductive Th (α : Type) where
  | dr (b : Bool) (ss : List Int)
  | ot (a : α)
section
variable {α : Type}
def mdL (w : Int) (ss : List Int) : List Int := ss.map (· % w)
def adL (ss ts : List Int) : List Int := List.zipWith (· + ·) ss ts
def md (w h : Int) (b : Bool) : Int := if b then w else h
def nz (ss : List Int) : Bool := ss.any (fun s => decide (0 < s))
def kd : Th α → Option Bool
  | .dr b _ => some b
  | .ot _ => none
def Apart (x y : Th α) : Prop := kd x = none ∨ kd x ≠ kd y
/-- no neighbours of one kind -/
def Chn (l : List (Th α)) : Prop := ∀ i x y, l[i]? = some x → l[i + 1]? = some y → Apart x y
theorem chn_one (a : Th α) : Chn [a] := fun i x y h h' => by simp at h'
theorem chn_cons {a b : Th α} {l : List (Th α)} (h : Apart a b) (hc : Chn (b :: l)) : Chn (a :: b :: l) := fun i x y h1 h2 => by
  cases i with
  | zero => simp at h1 h2; subst h1 h2; exact h
  | succ i => exact hc i x y (by simpa using h1) (by simpa using h2)
theorem Chn.tail {a : Th α} {l : List (Th α)} (hc : Chn (a :: l)) : Chn l := fun i x y h1 h2 => hc (i + 1) x y (by simpa using h1) (by simpa using h2)
/-- so many strides for each kind -/
def Sz (n k : Nat) : Th α → Prop
  | .dr b ss => ss.length = if b then n else k
  | .ot _ => True
def Pln (w h : Int) : Th α → Prop
  | .dr b ss => nz ss = true ∧ mdL (md w h b) ss = ss
  | .ot _ => True
structure Rdc (w h : Int) (st : List (Th α)) : Prop where
  pl : ∀ x ∈ st, Pln w h x
  ap : Chn st
theorem mdL_md (w : Int) (ss : List Int) : mdL w (mdL w ss) = mdL w ss := by
  simp [mdL, List.map_map, Function.comp_def]
theorem mdL_len (w : Int) (ss : List Int) : (mdL w ss).length = ss.length := by simp [mdL]
theorem adL_len {ss ts : List Int} (h : ss.length = ts.length) : (adL ss ts).length = ss.length := by simp [adL, h]
theorem Rdc.tail {w h : Int} {x : Th α} {st : List (Th α)} (r : Rdc w h (x :: st)) : Rdc w h st := ⟨fun y hy => r.pl y (by simp [hy]), r.ap.tail⟩
theorem Rdc.far {w h : Int} {b : Bool} {ts : List Int} {st : List (Th α)} (r : Rdc w h (.dr b ts :: st)) : ∀ x ∈ st.head?, kd x ≠ some b := by
  intro x hx
  cases st with
  | nil => cases hx
  | cons y st' =>
    cases hx
    have := r.ap 0 _ _ rfl rfl
    rcases this with h' | h'
    · cases h'
    · exact fun e => h' e.symm
theorem Rdc.push {w h : Int} {b : Bool} {ss : List Int} {st : List (Th α)} (r : Rdc w h st) (ha : ∀ x ∈ st.head?, kd x ≠ some b) (hn : nz (mdL (md w h b) ss) = true) : Rdc w h (.dr b (mdL (md w h b) ss) :: st) := by
  refine ⟨fun x hx => ?_, ?_⟩
  · rcases List.mem_cons.mp hx with rfl | hx
    · exact ⟨hn, mdL_md _ _⟩
    · exact r.pl x hx
  · cases st with
    | nil => exact chn_one _
    | cons y st' => exact chn_cons (.inr fun e => ha y rfl e.symm) r.ap
/-- a thing with small strides -/
def pln (w h : Int) : Th α → Th α
  | .dr b ss => .dr b (mdL (md w h b) ss)
  | .ot a => .ot a
/-- what moves nothing -/
def idle : Th α → Bool
  | .dr _ ss => !nz ss
  | .ot _ => false
theorem Apart.symm {x y : Th α} (h : Apart x y) : Apart y x := by
  unfold Apart at h ⊢
  rcases h with h | h
  · by_cases e : kd y = none
    · exact .inl e
    · exact .inr (by rw [h]; exact e)
  · exact .inr fun e => h e.symm
/-! ### joined over and over -/
def sameAt (rows : List (Th α)) (k : Nat) : Bool := match rows[k]?, rows[k + 1]? with
  | some (.dr b _), some (.dr b' _) => b == b'
  | _, _ => false
def ats (rows : List (Th α)) : List Nat := (List.range (rows.length - 1)).filter (sameAt rows)
def bothAt (w h : Int) (rows : List (Th α)) (k : Nat) : List (Th α) := match rows[k]?, rows[k + 1]? with
  | some (.dr b ss), some (.dr _ ts) => [.dr b (mdL (md w h b) (adL ss ts))]
  | _, _ => []
def busy (rows : List (Th α)) : List (Th α) := rows.filter fun d => !idle d
def jturn (w h : Int) (rows : List (Th α)) : List (Th α) := match ats (busy rows) with
  | [] => busy rows
  | k :: _ => (busy rows).take k ++ bothAt w h (busy rows) k ++ (busy rows).drop (k + 2)
theorem sameAt_is {rows : List (Th α)} {k : Nat} (h : sameAt rows k = true) : ∃ b ss ts, rows[k]? = some (.dr b ss) ∧ rows[k + 1]? = some (.dr b ts) := by
  unfold sameAt at h
  split at h
  · rename_i b ss b' ts h1 h2
    have : b = b' := by simpa using h
    subst this
    exact ⟨b, ss, ts, h1, h2⟩
  · cases h
theorem split_two {β : Type} {l : List β} {k : Nat} {x y : β} (h1 : l[k]? = some x) (h2 : l[k + 1]? = some y) : l = l.take k ++ x :: y :: l.drop (k + 2) := by
  obtain ⟨l1, e1⟩ := List.getElem?_eq_some_iff.mp h1
  obtain ⟨l2, e2⟩ := List.getElem?_eq_some_iff.mp h2
  have d1 := List.drop_eq_getElem_cons l1
  have d2 := List.drop_eq_getElem_cons l2
  rw [e1] at d1
  rw [e2] at d2
  rw [d2] at d1
  rw [← d1, List.take_append_drop]
/-- what a turn does -/
theorem jturn_cases {w h : Int} {n k : Nat} (rows : List (Th α)) (rz : ∀ x ∈ rows, Sz n k x) (rp : ∀ x ∈ rows, pln w h x = x) :
    (jturn w h rows = busy rows ∧ Rdc w h (busy rows)) ∨
    (∃ xs ys b ss ts, busy rows = xs ++ .dr b ss :: .dr b ts :: ys ∧ jturn w h rows = xs ++ .dr b (mdL (md w h b) (adL ss ts)) :: ys) := by
  unfold jturn
  cases e : ats (busy rows) with
  | nil =>
    refine .inl ⟨rfl, ⟨fun x hx => ?_, fun i x y h1 h2 => ?_⟩⟩
    · obtain ⟨hm, hi⟩ := List.mem_filter.mp hx
      cases x with
      | ot a => trivial
      | dr b ss =>
        have hp := rp _ hm
        refine ⟨by simpa [idle] using hi, by injection hp⟩
    · have hl := (List.getElem?_eq_some_iff.mp h2).1
      have hn : sameAt (busy rows) i = false := by
        cases q : sameAt (busy rows) i with
        | false => rfl
        | true =>
          have : i ∈ ats (busy rows) := List.mem_filter.mpr ⟨List.mem_range.mpr (by omega), q⟩
          rw [e] at this
          cases this
      unfold sameAt at hn
      rw [h1, h2] at hn
      cases x with
      | ot a => exact .inl rfl
      | dr b ss =>
        cases y with
        | ot a => exact .inr (by simp [kd])
        | dr b' ts => exact .inr (by simpa [kd] using hn)
  | cons k' rest =>
    have hk : k' ∈ ats (busy rows) := by rw [e]; simp
    obtain ⟨b, ss, ts, h1, h2⟩ := sameAt_is (List.mem_filter.mp hk).2
    refine .inr ⟨(busy rows).take k', (busy rows).drop (k' + 2), b, ss, ts, split_two h1 h2, ?_⟩
    simp only [bothAt, h1, h2]
    simp
structure Jok (w h : Int) (n k : Nat) (rows : List (Th α)) : Prop where
  sz : ∀ x ∈ rows, Sz n k x
  pl : ∀ x ∈ rows, pln w h x = x
theorem Jok.busy {w h : Int} {n k : Nat} {rows : List (Th α)} (j : Jok w h n k rows) : Jok w h n k (busy rows) := ⟨fun x hx => j.sz x (List.mem_filter.mp hx).1, fun x hx => j.pl x (List.mem_filter.mp hx).1⟩
theorem Jok.turn {w h : Int} {n k : Nat} {rows : List (Th α)} (j : Jok w h n k rows) : Jok w h n k (jturn w h rows) := by
  rcases jturn_cases rows j.sz j.pl with ⟨e, _⟩ | ⟨xs, ys, b, ss, ts, e1, e2⟩
  · rw [e]; exact j.busy
  · have jb := j.busy
    rw [e1] at jb
    have sz : ss.length = if b then n else k := jb.sz (.dr b ss) (by simp)
    have tz : ts.length = if b then n else k := jb.sz (.dr b ts) (by simp)
    rw [e2]
    refine ⟨fun x hx => ?_, fun x hx => ?_⟩
    · rcases List.mem_append.mp hx with hx | hx
      · exact jb.sz x (by simp [hx])
      · rcases List.mem_cons.mp hx with rfl | hx
        · show (mdL _ _).length = _
          rw [mdL_len, adL_len (by omega), sz]
        · exact jb.sz x (by simp [hx])
    · rcases List.mem_append.mp hx with hx | hx
      · exact jb.pl x (by simp [hx])
      · rcases List.mem_cons.mp hx with rfl | hx
        · show Th.dr b _ = _
          rw [mdL_md]
        · exact jb.pl x (by simp [hx])
end
end RP

/-! P73: all rows of cells, in order. Plain. -/
namespace RP
open PySem L2
open PySem.W (alike alikeAll dataLt dataLe dataLe_eq)
end RP

namespace Lw
open PySem L2 RP

/-! ### the text by places -/
def top (i : Nat) : Stmt := PySem.Challenge.pw_rakedpapers_k15_known_edges.main.body.getD i (.Pass ⟨0, 0, 0, 0⟩)
structure Ad where
  f_InvalidRecipeD_initD : Addr
  f_is_number : Addr
  f_is_letter : Addr
  f_are_signs : Addr
  f_is_size : Addr
  f_check_size : Addr
  f_BathD_initD : Addr
  f_Bath_width : Addr
  f_Bath_height : Addr
  f_Bath_cells : Addr
  f_BathD_lenD : Addr
  f_BathD_eqD : Addr
  f_are_strides : Addr
  f_are_cells : Addr
  f_is_draw : Addr
  f_is_deed : Addr
  f_check_recipe : Addr
  f_drawn : Addr
  f_pushed : Addr
  f_TrayD_initD : Addr
  f_Tray_do : Addr
  f_all_steps : Addr
  f_done : Addr
  f_check_cell : Addr
  f_ahead_of : Addr
  f_last_drops : Addr
  f_check_colours : Addr
  f_known_ahead : Addr
  f_fits : Addr
  f_ahead_count : Addr
  f_first_ahead : Addr
  f_RoundsD_initD : Addr
  f_Rounds_at : Addr
  f_period : Addr
  f_check_few : Addr
  f_check_cells : Addr
  f_all_strides : Addr
  f_all_draws : Addr
  f_draw_levels : Addr
  f_draw_count : Addr
  f_fewest_draws : Addr
  f_check_drops : Addr
  f_dropped : Addr
  f_first_way : Addr
  f_first_drops : Addr
  f_fewest_drops : Addr
  f_choices : Addr
  f_colourings : Addr
  f_recipes_of_drops : Addr
  f_origins_of : Addr
  f_sources : Addr
  f_copies_of : Addr
  f_lost : Addr
  f_shown : Addr
  f_outcome : Addr
  f_check_two : Addr
  f_are_alike : Addr
  f_alike : Addr
  f_texts : Addr
  f_parting_bath : Addr
  f_check_papers : Addr
  f_told : Addr
  f_plain : Addr
  f_turned_back : Addr
  f_short : Addr
  f_shortened : Addr
  f_undoing : Addr
  f__law_taken : Addr
  f__law_raised : Addr
  f__law_one : Addr
  f__law_cross : Addr
  f_law : Addr
  cc_law : Addr
  tp_law : Addr
  c_BathError : Addr
  c_InvalidBath : Addr
  c_InvalidSize : Addr
  c_InvalidRecipe : Addr
  c_UnknownCell : Addr
  c_InvalidSign : Addr
  c_InvalidDeed : Addr
  c_InvalidCells : Addr
  c_InvalidNumber : Addr
  c_TooMany : Addr
  c_InvalidColours : Addr
  c_NoDrop : Addr
  c_InvalidPapers : Addr
  c_Bath : Addr
  c_Tray : Addr
  c_Rounds : Addr
def flN : Nat → List Str := fun n => match n with
  | 0 => []
  | 1 => ["part"]
  | 2 => []
  | 3 => ["index"]
  | 4 => []
  | 5 => []
  | 6 => []
  | 7 => []
  | 8 => []
  | 9 => []
  | 10 => []
  | 11 => []
  | 12 => ["index"]
  | 13 => ["parts"]
  | 14 => ["size", "things", "papers"]
  | 15 => ["rows", "begin"]
  | _ => []
def tab (A : Ad) : Tab := ⟨fun n => match n with
  | 0 => A.c_BathError
  | 1 => A.c_InvalidBath
  | 2 => A.c_InvalidSize
  | 3 => A.c_InvalidRecipe
  | 4 => A.c_UnknownCell
  | 5 => A.c_InvalidSign
  | 6 => A.c_InvalidDeed
  | 7 => A.c_InvalidCells
  | 8 => A.c_InvalidNumber
  | 9 => A.c_TooMany
  | 10 => A.c_InvalidColours
  | 11 => A.c_NoDrop
  | 12 => A.c_InvalidPapers
  | 13 => A.c_Bath
  | 14 => A.c_Tray
  | 15 => A.c_Rounds
  | _ => 0, flN, [(A.tp_law, (("law" : Str) ++ ".<locals>.") ++ "<lambda>")], []⟩
abbrev s_InvalidRecipeD_initD : Stmt := inClass (top 4) 0
abbrev s_is_number : Stmt := top 25
abbrev s_is_letter : Stmt := top 26
abbrev s_are_signs : Stmt := top 27
abbrev s_is_size : Stmt := top 28
abbrev s_check_size : Stmt := top 29
abbrev s_BathD_initD : Stmt := inClass (top 30) 1
abbrev s_Bath_width : Stmt := inClass (top 30) 2
abbrev s_Bath_height : Stmt := inClass (top 30) 3
abbrev s_Bath_cells : Stmt := inClass (top 30) 4
abbrev s_BathD_lenD : Stmt := inClass (top 30) 5
abbrev s_BathD_eqD : Stmt := inClass (top 30) 6
abbrev s_are_strides : Stmt := top 31
abbrev s_are_cells : Stmt := top 32
abbrev s_is_draw : Stmt := top 33
abbrev s_is_deed : Stmt := top 34
abbrev s_check_recipe : Stmt := top 35
abbrev s_drawn : Stmt := top 36
abbrev s_pushed : Stmt := top 37
abbrev s_TrayD_initD : Stmt := inClass (top 38) 0
abbrev s_Tray_do : Stmt := inClass (top 38) 1
abbrev s_all_steps : Stmt := top 39
abbrev s_done : Stmt := top 40
abbrev s_check_cell : Stmt := top 41
abbrev s_ahead_of : Stmt := top 43
abbrev s_last_drops : Stmt := top 44
abbrev s_check_colours : Stmt := top 45
abbrev s_known_ahead : Stmt := top 46
abbrev s_fits : Stmt := top 47
abbrev s_ahead_count : Stmt := top 48
abbrev s_first_ahead : Stmt := top 49
abbrev s_RoundsD_initD : Stmt := inClass (top 51) 0
abbrev s_Rounds_at : Stmt := inClass (top 51) 1
abbrev s_period : Stmt := top 52
abbrev s_check_few : Stmt := top 56
abbrev s_check_cells : Stmt := top 57
abbrev s_all_strides : Stmt := top 58
abbrev s_all_draws : Stmt := top 59
abbrev s_draw_levels : Stmt := top 60
abbrev s_draw_count : Stmt := top 61
abbrev s_fewest_draws : Stmt := top 62
abbrev s_check_drops : Stmt := top 63
abbrev s_dropped : Stmt := top 64
abbrev s_first_way : Stmt := top 65
abbrev s_first_drops : Stmt := top 66
abbrev s_fewest_drops : Stmt := top 67
abbrev s_choices : Stmt := top 68
abbrev s_colourings : Stmt := top 69
abbrev s_recipes_of_drops : Stmt := top 70
abbrev s_origins_of : Stmt := top 76
abbrev s_sources : Stmt := top 77
abbrev s_copies_of : Stmt := top 78
abbrev s_lost : Stmt := top 79
abbrev s_shown : Stmt := top 80
abbrev s_outcome : Stmt := top 81
abbrev s_check_two : Stmt := top 82
abbrev s_are_alike : Stmt := top 83
abbrev s_alike : Stmt := top 84
abbrev s_texts : Stmt := top 85
abbrev s_parting_bath : Stmt := top 86
abbrev s_check_papers : Stmt := top 87
abbrev s_told : Stmt := top 88
abbrev s_plain : Stmt := top 90
abbrev s_turned_back : Stmt := top 91
abbrev s_short : Stmt := top 92
abbrev s_shortened : Stmt := top 93
abbrev s_undoing : Stmt := top 94
abbrev s__law_taken : Stmt := top 96
abbrev s__law_raised : Stmt := top 97
abbrev s__law_one : Stmt := top 98
abbrev s__law_cross : Stmt := top 99
abbrev s_law : Stmt := top 100
/-- what the top has left -/
structure Glb (m : Mo) (A : Ad) : Prop where
  F_InvalidRecipeD_initD : ∃ fd, Fun m.K "__init__" "InvalidRecipe.__init__" s_InvalidRecipeD_initD A.f_InvalidRecipeD_initD fd ∧ Binds m.K fd ["self", "index"] []
  F_is_number : ∃ fd, Fun m.K "is_number" "is_number" s_is_number A.f_is_number fd ∧ Binds m.K fd ["value", "smallest", "largest"] []
  g_is_number : m.mg "is_number" = some (.ref A.f_is_number)
  F_is_letter : ∃ fd, Fun m.K "is_letter" "is_letter" s_is_letter A.f_is_letter fd ∧ Binds m.K fd ["value"] []
  g_is_letter : m.mg "is_letter" = some (.ref A.f_is_letter)
  F_are_signs : ∃ fd, Fun m.K "are_signs" "are_signs" s_are_signs A.f_are_signs fd ∧ Binds m.K fd ["size", "value"] []
  g_are_signs : m.mg "are_signs" = some (.ref A.f_are_signs)
  F_is_size : ∃ fd, Fun m.K "is_size" "is_size" s_is_size A.f_is_size fd ∧ Binds m.K fd ["width", "height"] []
  g_is_size : m.mg "is_size" = some (.ref A.f_is_size)
  F_check_size : ∃ fd, Fun m.K "check_size" "check_size" s_check_size A.f_check_size fd ∧ Binds m.K fd ["width", "height"] []
  g_check_size : m.mg "check_size" = some (.ref A.f_check_size)
  F_BathD_initD : ∃ fd, Fun m.K "__init__" "Bath.__init__" s_BathD_initD A.f_BathD_initD fd ∧ Binds m.K fd ["self", "width", "height", "cells"] []
  F_Bath_width : ∃ fd, Fun m.K "width" "Bath.width" s_Bath_width A.f_Bath_width fd ∧ Binds m.K fd ["self"] []
  F_Bath_height : ∃ fd, Fun m.K "height" "Bath.height" s_Bath_height A.f_Bath_height fd ∧ Binds m.K fd ["self"] []
  F_Bath_cells : ∃ fd, Fun m.K "cells" "Bath.cells" s_Bath_cells A.f_Bath_cells fd ∧ Binds m.K fd ["self"] []
  F_BathD_lenD : ∃ fd, Fun m.K "__len__" "Bath.__len__" s_BathD_lenD A.f_BathD_lenD fd ∧ Binds m.K fd ["self"] []
  F_BathD_eqD : ∃ fd, Fun m.K "__eq__" "Bath.__eq__" s_BathD_eqD A.f_BathD_eqD fd ∧ Binds m.K fd ["self", "other"] []
  F_are_strides : ∃ fd, Fun m.K "are_strides" "are_strides" s_are_strides A.f_are_strides fd ∧ Binds m.K fd ["value", "count"] []
  g_are_strides : m.mg "are_strides" = some (.ref A.f_are_strides)
  F_are_cells : ∃ fd, Fun m.K "are_cells" "are_cells" s_are_cells A.f_are_cells fd ∧ Binds m.K fd ["size", "value"] []
  g_are_cells : m.mg "are_cells" = some (.ref A.f_are_cells)
  F_is_draw : ∃ fd, Fun m.K "is_draw" "is_draw" s_is_draw A.f_is_draw fd ∧ Binds m.K fd ["width", "height", "value"] []
  g_is_draw : m.mg "is_draw" = some (.ref A.f_is_draw)
  F_is_deed : ∃ fd, Fun m.K "is_deed" "is_deed" s_is_deed A.f_is_deed fd ∧ Binds m.K fd ["width", "height", "value"] []
  g_is_deed : m.mg "is_deed" = some (.ref A.f_is_deed)
  F_check_recipe : ∃ fd, Fun m.K "check_recipe" "check_recipe" s_check_recipe A.f_check_recipe fd ∧ Binds m.K fd ["width", "height", "recipe"] []
  g_check_recipe : m.mg "check_recipe" = some (.ref A.f_check_recipe)
  F_drawn : ∃ fd, Fun m.K "drawn" "drawn" s_drawn A.f_drawn fd ∧ Binds m.K fd ["width", "height", "deed"] []
  g_drawn : m.mg "drawn" = some (.ref A.f_drawn)
  F_pushed : ∃ fd, Fun m.K "pushed" "pushed" s_pushed A.f_pushed fd ∧ Binds m.K fd ["width", "height", "cell"] []
  g_pushed : m.mg "pushed" = some (.ref A.f_pushed)
  F_TrayD_initD : ∃ fd, Fun m.K "__init__" "Tray.__init__" s_TrayD_initD A.f_TrayD_initD fd ∧ Binds m.K fd ["self", "width", "height", "things"] []
  F_Tray_do : ∃ fd, Fun m.K "do" "Tray.do" s_Tray_do A.f_Tray_do fd ∧ Binds m.K fd ["self", "deed", "fresh"] []
  F_all_steps : ∃ fd, Fun m.K "all_steps" "all_steps" s_all_steps A.f_all_steps fd ∧ Binds m.K fd ["width", "height", "cells", "recipe"] []
  g_all_steps : m.mg "all_steps" = some (.ref A.f_all_steps)
  F_done : ∃ fd, Fun m.K "done" "done" s_done A.f_done fd ∧ Binds m.K fd ["bath", "recipe"] []
  g_done : m.mg "done" = some (.ref A.f_done)
  F_check_cell : ∃ fd, Fun m.K "check_cell" "check_cell" s_check_cell A.f_check_cell fd ∧ Binds m.K fd ["bath", "cell"] []
  g_check_cell : m.mg "check_cell" = some (.ref A.f_check_cell)
  F_ahead_of : ∃ fd, Fun m.K "ahead_of" "ahead_of" s_ahead_of A.f_ahead_of fd ∧ Binds m.K fd ["bath", "cell"] []
  g_ahead_of : m.mg "ahead_of" = some (.ref A.f_ahead_of)
  F_last_drops : ∃ fd, Fun m.K "last_drops" "last_drops" s_last_drops A.f_last_drops fd ∧ Binds m.K fd ["bath"] []
  g_last_drops : m.mg "last_drops" = some (.ref A.f_last_drops)
  F_check_colours : ∃ fd, Fun m.K "check_colours" "check_colours" s_check_colours A.f_check_colours fd ∧ Binds m.K fd ["colours"] []
  g_check_colours : m.mg "check_colours" = some (.ref A.f_check_colours)
  F_known_ahead : ∃ fd, Fun m.K "known_ahead" "known_ahead" s_known_ahead A.f_known_ahead fd ∧ Binds m.K fd ["bath", "cell", "colours"] []
  g_known_ahead : m.mg "known_ahead" = some (.ref A.f_known_ahead)
  F_fits : ∃ fd, Fun m.K "fits" "fits" s_fits A.f_fits fd ∧ Binds m.K fd ["found", "colours"] []
  g_fits : m.mg "fits" = some (.ref A.f_fits)
  F_ahead_count : ∃ fd, Fun m.K "ahead_count" "ahead_count" s_ahead_count A.f_ahead_count fd ∧ Binds m.K fd ["bath", "cell", "colours"] []
  g_ahead_count : m.mg "ahead_count" = some (.ref A.f_ahead_count)
  F_first_ahead : ∃ fd, Fun m.K "first_ahead" "first_ahead" s_first_ahead A.f_first_ahead fd ∧ Binds m.K fd ["bath", "cell", "colours"] []
  g_first_ahead : m.mg "first_ahead" = some (.ref A.f_first_ahead)
  F_RoundsD_initD : ∃ fd, Fun m.K "__init__" "Rounds.__init__" s_RoundsD_initD A.f_RoundsD_initD fd ∧ Binds m.K fd ["self", "bath", "recipe"] []
  F_Rounds_at : ∃ fd, Fun m.K "at" "Rounds.at" s_Rounds_at A.f_Rounds_at fd ∧ Binds m.K fd ["self", "count"] []
  F_period : ∃ fd, Fun m.K "period" "period" s_period A.f_period fd ∧ Binds m.K fd ["bath", "recipe"] []
  g_period : m.mg "period" = some (.ref A.f_period)
  F_check_few : ∃ fd, Fun m.K "check_few" "check_few" s_check_few A.f_check_few fd ∧ Binds m.K fd ["bath"] []
  g_check_few : m.mg "check_few" = some (.ref A.f_check_few)
  F_check_cells : ∃ fd, Fun m.K "check_cells" "check_cells" s_check_cells A.f_check_cells fd ∧ Binds m.K fd ["bath", "cells"] []
  g_check_cells : m.mg "check_cells" = some (.ref A.f_check_cells)
  F_all_strides : ∃ fd, Fun m.K "all_strides" "all_strides" s_all_strides A.f_all_strides fd ∧ Binds m.K fd ["count", "length"] []
  g_all_strides : m.mg "all_strides" = some (.ref A.f_all_strides)
  F_all_draws : ∃ fd, Fun m.K "all_draws" "all_draws" s_all_draws A.f_all_draws fd ∧ Binds m.K fd ["bath"] []
  g_all_draws : m.mg "all_draws" = some (.ref A.f_all_draws)
  F_draw_levels : ∃ fd, Fun m.K "draw_levels" "draw_levels" s_draw_levels A.f_draw_levels fd ∧ Binds m.K fd ["bath"] []
  g_draw_levels : m.mg "draw_levels" = some (.ref A.f_draw_levels)
  F_draw_count : ∃ fd, Fun m.K "draw_count" "draw_count" s_draw_count A.f_draw_count fd ∧ Binds m.K fd ["bath"] []
  g_draw_count : m.mg "draw_count" = some (.ref A.f_draw_count)
  F_fewest_draws : ∃ fd, Fun m.K "fewest_draws" "fewest_draws" s_fewest_draws A.f_fewest_draws fd ∧ Binds m.K fd ["bath", "cells"] []
  g_fewest_draws : m.mg "fewest_draws" = some (.ref A.f_fewest_draws)
  F_check_drops : ∃ fd, Fun m.K "check_drops" "check_drops" s_check_drops A.f_check_drops fd ∧ Binds m.K fd ["bath", "cells", "most"] []
  g_check_drops : m.mg "check_drops" = some (.ref A.f_check_drops)
  F_dropped : ∃ fd, Fun m.K "dropped" "dropped" s_dropped A.f_dropped fd ∧ Binds m.K fd ["bath", "cells", "cell", "colour"] []
  g_dropped : m.mg "dropped" = some (.ref A.f_dropped)
  F_first_way : ∃ fd, Fun m.K "first_way" "first_way" s_first_way A.f_first_way fd ∧ Binds m.K fd ["bath", "cells", "goal", "count"] []
  g_first_way : m.mg "first_way" = some (.ref A.f_first_way)
  F_first_drops : ∃ fd, Fun m.K "first_drops" "first_drops" s_first_drops A.f_first_drops fd ∧ Binds m.K fd ["bath", "cells", "most"] []
  g_first_drops : m.mg "first_drops" = some (.ref A.f_first_drops)
  F_fewest_drops : ∃ fd, Fun m.K "fewest_drops" "fewest_drops" s_fewest_drops A.f_fewest_drops fd ∧ Binds m.K fd ["bath", "cells", "most"] []
  g_fewest_drops : m.mg "fewest_drops" = some (.ref A.f_fewest_drops)
  F_choices : ∃ fd, Fun m.K "choices" "choices" s_choices A.f_choices fd ∧ Binds m.K fd ["size", "count"] []
  g_choices : m.mg "choices" = some (.ref A.f_choices)
  F_colourings : ∃ fd, Fun m.K "colourings" "colourings" s_colourings A.f_colourings fd ∧ Binds m.K fd ["bath", "row"] []
  g_colourings : m.mg "colourings" = some (.ref A.f_colourings)
  F_recipes_of_drops : ∃ fd, Fun m.K "recipes_of_drops" "recipes_of_drops" s_recipes_of_drops A.f_recipes_of_drops fd ∧ Binds m.K fd ["bath", "count"] []
  g_recipes_of_drops : m.mg "recipes_of_drops" = some (.ref A.f_recipes_of_drops)
  F_origins_of : ∃ fd, Fun m.K "origins_of" "origins_of" s_origins_of A.f_origins_of fd ∧ Binds m.K fd ["width", "height", "recipe"] []
  g_origins_of : m.mg "origins_of" = some (.ref A.f_origins_of)
  F_sources : ∃ fd, Fun m.K "sources" "sources" s_sources A.f_sources fd ∧ Binds m.K fd ["width", "height", "recipe"] []
  g_sources : m.mg "sources" = some (.ref A.f_sources)
  F_copies_of : ∃ fd, Fun m.K "copies_of" "copies_of" s_copies_of A.f_copies_of fd ∧ Binds m.K fd ["width", "height", "recipe"] []
  g_copies_of : m.mg "copies_of" = some (.ref A.f_copies_of)
  F_lost : ∃ fd, Fun m.K "lost" "lost" s_lost A.f_lost fd ∧ Binds m.K fd ["width", "height", "recipe"] []
  g_lost : m.mg "lost" = some (.ref A.f_lost)
  F_shown : ∃ fd, Fun m.K "shown" "shown" s_shown A.f_shown fd ∧ Binds m.K fd ["source", "recipe", "cells"] []
  g_shown : m.mg "shown" = some (.ref A.f_shown)
  F_outcome : ∃ fd, Fun m.K "outcome" "outcome" s_outcome A.f_outcome fd ∧ Binds m.K fd ["width", "height", "recipe", "cells"] []
  g_outcome : m.mg "outcome" = some (.ref A.f_outcome)
  F_check_two : ∃ fd, Fun m.K "check_two" "check_two" s_check_two A.f_check_two fd ∧ Binds m.K fd ["width", "height", "one", "other"] []
  g_check_two : m.mg "check_two" = some (.ref A.f_check_two)
  F_are_alike : ∃ fd, Fun m.K "are_alike" "are_alike" s_are_alike A.f_are_alike fd ∧ Binds m.K fd ["width", "height", "one", "other"] []
  g_are_alike : m.mg "are_alike" = some (.ref A.f_are_alike)
  F_alike : ∃ fd, Fun m.K "alike" "alike" s_alike A.f_alike fd ∧ Binds m.K fd ["width", "height", "one", "other"] []
  g_alike : m.mg "alike" = some (.ref A.f_alike)
  F_texts : ∃ fd, Fun m.K "texts" "texts" s_texts A.f_texts fd ∧ Binds m.K fd ["size"] []
  g_texts : m.mg "texts" = some (.ref A.f_texts)
  F_parting_bath : ∃ fd, Fun m.K "parting_bath" "parting_bath" s_parting_bath A.f_parting_bath fd ∧ Binds m.K fd ["width", "height", "one", "other"] []
  g_parting_bath : m.mg "parting_bath" = some (.ref A.f_parting_bath)
  F_check_papers : ∃ fd, Fun m.K "check_papers" "check_papers" s_check_papers A.f_check_papers fd ∧ Binds m.K fd ["rows", "papers"] []
  g_check_papers : m.mg "check_papers" = some (.ref A.f_check_papers)
  F_told : ∃ fd, Fun m.K "told" "told" s_told A.f_told fd ∧ Binds m.K fd ["width", "height", "recipe", "papers"] []
  g_told : m.mg "told" = some (.ref A.f_told)
  F_plain : ∃ fd, Fun m.K "plain" "plain" s_plain A.f_plain fd ∧ Binds m.K fd ["width", "height", "deed"] []
  g_plain : m.mg "plain" = some (.ref A.f_plain)
  F_turned_back : ∃ fd, Fun m.K "turned_back" "turned_back" s_turned_back A.f_turned_back fd ∧ Binds m.K fd ["width", "height", "deed"] []
  g_turned_back : m.mg "turned_back" = some (.ref A.f_turned_back)
  F_short : ∃ fd, Fun m.K "short" "short" s_short A.f_short fd ∧ Binds m.K fd ["width", "height", "recipe"] []
  g_short : m.mg "short" = some (.ref A.f_short)
  F_shortened : ∃ fd, Fun m.K "shortened" "shortened" s_shortened A.f_shortened fd ∧ Binds m.K fd ["bath", "recipe"] []
  g_shortened : m.mg "shortened" = some (.ref A.f_shortened)
  F_undoing : ∃ fd, Fun m.K "undoing" "undoing" s_undoing A.f_undoing fd ∧ Binds m.K fd ["bath", "recipe"] []
  g_undoing : m.mg "undoing" = some (.ref A.f_undoing)
  F__law_taken : ∃ fd, Fun m.K "_law_taken" "_law_taken" s__law_taken A.f__law_taken fd ∧ Binds m.K fd ["_law_row", "_law_many"] []
  g__law_taken : m.mg "_law_taken" = some (.ref A.f__law_taken)
  F__law_raised : ∃ fd, Fun m.K "_law_raised" "_law_raised" s__law_raised A.f__law_raised fd ∧ Binds m.K fd ["_law_work"] []
  g__law_raised : m.mg "_law_raised" = some (.ref A.f__law_raised)
  F__law_one : ∃ fd, Fun m.K "_law_one" "_law_one" s__law_one A.f__law_one fd ∧ Binds m.K fd [] []
  g__law_one : m.mg "_law_one" = some (.ref A.f__law_one)
  F__law_cross : ∃ fd, Fun m.K "_law_cross" "_law_cross" s__law_cross A.f__law_cross fd ∧ Binds m.K fd [] []
  g__law_cross : m.mg "_law_cross" = some (.ref A.f__law_cross)
  F_law : ∃ fd, Fun m.K "law" "law" s_law A.f_law fd ∧ Binds m.K fd ["_law_script"] [] ∧ fd.code = .ref A.cc_law
  tb_law : LamX.TabB m.base m.mg A.cc_law A.tp_law
  g_law : m.mg "law" = some (.ref A.f_law)
  n_ValueError : m.mg "ValueError" = none
  n_all : m.mg "all" = none
  n_bool : m.mg "bool" = none
  n_enumerate : m.mg "enumerate" = none
  n_int : m.mg "int" = none
  n_isinstance : m.mg "isinstance" = none
  n_len : m.mg "len" = none
  n_list : m.mg "list" = none
  n_max : m.mg "max" = none
  n_range : m.mg "range" = none
  n_set : m.mg "set" = none
  n_sorted : m.mg "sorted" = none
  n_str : m.mg "str" = none
  n_sum : m.mg "sum" = none
  n_tuple : m.mg "tuple" = none
  n_zip : m.mg "zip" = none
  c_CELL : ∃ tk, m.mg "CELL" = some (.str "cell" tk)
  c_COMB : ∃ tk, m.mg "COMB" = some (.str "comb" tk)
  c_DROP : ∃ tk, m.mg "DROP" = some (.str "drop" tk)
  c_FEW_CELLS_fewest : ∃ tk, m.mg "FEW_CELLS_fewest" = some (.int 6 tk)
  c_FEW_CELLS_origins : ∃ tk, m.mg "FEW_CELLS_origins" = some (.int 8 tk)
  c_LETTERS : ∃ tk, m.mg "LETTERS" = some (.str "abcdefghijklmnopqrstuvwxyz" tk)
  c_MAX_CELLS : ∃ tk, m.mg "MAX_CELLS" = some (.int 12 tk)
  c_MAX_DEEDS : ∃ tk, m.mg "MAX_DEEDS" = some (.int 12 tk)
  c_MAX_DROPS : ∃ tk, m.mg "MAX_DROPS" = some (.int 3 tk)
  c_MAX_SIDE : ∃ tk, m.mg "MAX_SIDE" = some (.int 5 tk)
  c_MAX_STRIDE : ∃ tk, m.mg "MAX_STRIDE" = some (.int 9 tk)
  c_NOTHING : ∃ tk, m.mg "NOTHING" = some (.str "." tk)
  c_PAPER : ∃ tk, m.mg "PAPER" = some (.str "paper" tk)
  c_PARTING : ∃ tk, m.mg "PARTING" = some (.str "ab" tk)
  c_RAKE : ∃ tk, m.mg "RAKE" = some (.str "rake" tk)
  c_UNTOLD : ∃ tk, m.mg "UNTOLD" = some (.str "?" tk)
  xg_BathError : m.mg "BathError" = some (.ref A.c_BathError)
  xg_InvalidBath : m.mg "InvalidBath" = some (.ref A.c_InvalidBath)
  xg_InvalidSize : m.mg "InvalidSize" = some (.ref A.c_InvalidSize)
  xg_InvalidRecipe : m.mg "InvalidRecipe" = some (.ref A.c_InvalidRecipe)
  exc_InvalidRecipe : ExcC m.K A.c_InvalidRecipe
  xg_UnknownCell : m.mg "UnknownCell" = some (.ref A.c_UnknownCell)
  xg_InvalidSign : m.mg "InvalidSign" = some (.ref A.c_InvalidSign)
  xg_InvalidDeed : m.mg "InvalidDeed" = some (.ref A.c_InvalidDeed)
  xg_InvalidCells : m.mg "InvalidCells" = some (.ref A.c_InvalidCells)
  xg_InvalidNumber : m.mg "InvalidNumber" = some (.ref A.c_InvalidNumber)
  xg_TooMany : m.mg "TooMany" = some (.ref A.c_TooMany)
  xg_InvalidColours : m.mg "InvalidColours" = some (.ref A.c_InvalidColours)
  xg_NoDrop : m.mg "NoDrop" = some (.ref A.c_NoDrop)
  xg_InvalidPapers : m.mg "InvalidPapers" = some (.ref A.c_InvalidPapers)
  exm_InvalidRecipe_BathError : PySem.W.exmOne m.K (.ref A.c_InvalidRecipe) (.ref A.c_BathError) = some true
  kit_InvalidRecipe_InvalidBath : PySem.W.kitOne m.K (.ref A.c_InvalidRecipe) (.ref A.c_InvalidBath) = some false
  kit_InvalidRecipe_InvalidCells : PySem.W.kitOne m.K (.ref A.c_InvalidRecipe) (.ref A.c_InvalidCells) = some false
  kit_InvalidRecipe_InvalidColours : PySem.W.kitOne m.K (.ref A.c_InvalidRecipe) (.ref A.c_InvalidColours) = some false
  kit_InvalidRecipe_InvalidDeed : PySem.W.kitOne m.K (.ref A.c_InvalidRecipe) (.ref A.c_InvalidDeed) = some false
  kit_InvalidRecipe_InvalidNumber : PySem.W.kitOne m.K (.ref A.c_InvalidRecipe) (.ref A.c_InvalidNumber) = some false
  kit_InvalidRecipe_InvalidPapers : PySem.W.kitOne m.K (.ref A.c_InvalidRecipe) (.ref A.c_InvalidPapers) = some false
  kit_InvalidRecipe_InvalidRecipe : PySem.W.kitOne m.K (.ref A.c_InvalidRecipe) (.ref A.c_InvalidRecipe) = some true
  kit_InvalidRecipe_InvalidSign : PySem.W.kitOne m.K (.ref A.c_InvalidRecipe) (.ref A.c_InvalidSign) = some false
  kit_InvalidRecipe_InvalidSize : PySem.W.kitOne m.K (.ref A.c_InvalidRecipe) (.ref A.c_InvalidSize) = some false
  kit_InvalidRecipe_NoDrop : PySem.W.kitOne m.K (.ref A.c_InvalidRecipe) (.ref A.c_NoDrop) = some false
  kit_InvalidRecipe_TooMany : PySem.W.kitOne m.K (.ref A.c_InvalidRecipe) (.ref A.c_TooMany) = some false
  kit_InvalidRecipe_UnknownCell : PySem.W.kitOne m.K (.ref A.c_InvalidRecipe) (.ref A.c_UnknownCell) = some false
  kit_InvalidRecipe_ValueError : PySem.W.kitOne m.K (.ref A.c_InvalidRecipe) (.type "ValueError") = some true
  mk_Bath : Mk m.K A.c_Bath A.f_BathD_initD
  g_Bath : m.mg "Bath" = some (.ref A.c_Bath)
  len_Bath : LenS m (tab A) 13 A.f_BathD_lenD
  isi_Bath : IsiS m (tab A) 13
  p_Bath_width : PropS m (tab A) 13 "width" A.f_Bath_width
  p_Bath_height : PropS m (tab A) 13 "height" A.f_Bath_height
  p_Bath_cells : PropS m (tab A) 13 "cells" A.f_Bath_cells
  f_Bath_parts : SltOk m (tab A) 13 0 "parts"
  mk_Tray : Mk m.K A.c_Tray A.f_TrayD_initD
  g_Tray : m.mg "Tray" = some (.ref A.c_Tray)
  cl_Tray : Cls m.K A.c_Tray
  m_Tray_do : Meth m.K A.c_Tray "do" A.f_Tray_do
  f_Tray_size : FldOk m (tab A) 14 0 "size"
  f_Tray_things : FldOk m (tab A) 14 1 "things"
  f_Tray_papers : FldOk m (tab A) 14 2 "papers"
  mk_Rounds : Mk m.K A.c_Rounds A.f_RoundsD_initD
  g_Rounds : m.mg "Rounds" = some (.ref A.c_Rounds)
  f_Rounds_rows : FldOk m (tab A) 15 0 "rows"
  f_Rounds_begin : FldOk m (tab A) 15 1 "begin"
  xb_BathError : ClX.CRead m.K A.c_BathError (.type "type") ∧ PySem.W.findCls m.K (.ref A.c_BathError) (.type "type") "__init__" = some (.val (.builtin "ValueError.__init__"))
  xo_InvalidRecipe : OexC m.K A.c_InvalidRecipe ∧ PySem.W.findIn m.K (.ref A.c_InvalidRecipe) "index" = some none ∧ PySem.W.findIn m.K (.ref A.c_InvalidRecipe) "__init__" = some (some (.ref A.f_InvalidRecipeD_initD)) ∧ PySem.W.typeIn m.K (.ref A.f_InvalidRecipeD_initD) = some (.type "function")
  xf_InvalidRecipe : XfC m.K A.c_InvalidRecipe ∧ PySem.W.findIn m.K (.ref A.c_InvalidRecipe) "index" = some none
/-! ### the defs -/
theorem xfk_InvalidRecipe {m : Mo} {A : Ad} (G : Glb m A) : XfOk m (tab A) 1 3 "InvalidRecipe" := by
  obtain ⟨fd, F, b⟩ := G.F_InvalidRecipeD_initD
  obtain ⟨h1, h2, h3, h4⟩ := G.xo_InvalidRecipe
  exact ⟨h1, G.xg_InvalidRecipe, _, fd, "index", ["self", "index"], rfl, h2, h3, h4, b, fn_init (k := 0) F ⟨rfl, rfl, rfl, by decide +kernel, rfl, by decide +kernel, by decide +kernel⟩ rfl G.xg_BathError rfl G.xb_BathError.1 G.xb_BathError.2 (Or.inl rfl) (Or.inl rfl) (by decide) (by decide) (by decide) (fun _ => ⟨_, rfl⟩)⟩
set_option maxHeartbeats 4000000 in
noncomputable def r_is_number : { fb : Slots → M Fl // ∀ {m : Mo} {A : Ad} (_ : Glb m A), SSs m (tab A) 0 true true (defScope s_is_number) ["value", "smallest", "largest"] (ow0 ["value", "smallest", "largest"]) (defBody s_is_number) fb } := ⟨_, fun {m A} G =>
  (ss_one (s_ret (e_and (e_blt n_isi G.n_isinstance (a_cons (e_var 0) (a_cons (e_ty (id := "int") G.n_int (by decide +kernel)) a_nil)) (by decide +kernel)) (e_and (e_not (e_blt n_isi G.n_isinstance (a_cons (e_var 0) (a_cons (e_ty (id := "bool") G.n_bool (by decide +kernel)) a_nil)) (by decide +kernel))) (e_one (e_chain h_le h_le (e_var 1) (e_var 0) (e_var 2)))))))⟩
noncomputable def g_is_number : List W → M W := bodyM 3 3 r_is_number.1
theorem kr_is_number {m : Mo} {A : Ad} (G : Glb m A) : FnM m (tab A) 1 A.f_is_number 3 g_is_number := by
  obtain ⟨fd, F, b⟩ := G.F_is_number
  exact fn_mk F ⟨rfl, rfl, rfl, by decide +kernel, rfl, by decide +kernel, by decide +kernel⟩ b (r_is_number.2 G)
theorem k_is_number {m : Mo} {A : Ad} (G : Glb m A) : FnM m (tab A) 1 A.f_is_number 3 g_is_number := kr_is_number G
set_option maxHeartbeats 4000000 in
noncomputable def r_is_letter : { fb : Slots → M Fl // ∀ {m : Mo} {A : Ad} (_ : Glb m A), SSs m (tab A) 0 true true (defScope s_is_letter) ["value"] (ow0 ["value"]) (defBody s_is_letter) fb } := ⟨_, fun {m A} G =>
  (ss_one (s_ret (e_and (e_blt n_isi G.n_isinstance (a_cons (e_var 0) (a_cons (e_ty (id := "str") G.n_str (by decide +kernel)) a_nil)) (by decide +kernel)) (e_and (e_cmp c_eq (e_blt n_len G.n_len (a_cons (e_var 0) a_nil) PySem.boot_len) e_int) (e_one (e_cmp c_in (e_var 0) (e_gstr G.c_LETTERS)))))))⟩
noncomputable def g_is_letter : List W → M W := bodyM 1 1 r_is_letter.1
theorem kr_is_letter {m : Mo} {A : Ad} (G : Glb m A) : FnM m (tab A) 1 A.f_is_letter 1 g_is_letter := by
  obtain ⟨fd, F, b⟩ := G.F_is_letter
  exact fn_mk F ⟨rfl, rfl, rfl, by decide +kernel, rfl, by decide +kernel, by decide +kernel⟩ b (r_is_letter.2 G)
theorem k_is_letter {m : Mo} {A : Ad} (G : Glb m A) : FnM m (tab A) 1 A.f_is_letter 1 g_is_letter := kr_is_letter G
set_option maxHeartbeats 4000000 in
noncomputable def r_are_signs : { fb : Slots → M Fl // ∀ {m : Mo} {A : Ad} (_ : Glb m A), SSs m (tab A) 0 true true (defScope s_are_signs) ["size", "value", "sign"] (ow0 ["size", "value", "sign"]) (defBody s_are_signs) fb } := ⟨_, fun {m A} G =>
  (ss_one (s_ret (e_and (e_blt n_isi G.n_isinstance (a_cons (e_var 1) (a_cons (e_ty (id := "str") G.n_str (by decide +kernel)) a_nil)) (by decide +kernel)) (e_and (e_cmp c_eq (e_blt n_len G.n_len (a_cons (e_var 1) a_nil) PySem.boot_len) (e_var 0)) (e_one (e_blt (n_all rfl) G.n_all (a_cons (e_lc [("sign", 2)] rfl (it_val (e_var 1)) (by decide +kernel) (tg_one 2) ts_nil (e_cmp c_in (e_var 2) (e_bin o_add (e_gstr G.c_LETTERS) (e_gstr G.c_NOTHING)))) a_nil) (by decide +kernel)))))))⟩
noncomputable def g_are_signs : List W → M W := bodyM 3 2 r_are_signs.1
theorem kr_are_signs {m : Mo} {A : Ad} (G : Glb m A) : FnM m (tab A) 1 A.f_are_signs 2 g_are_signs := by
  obtain ⟨fd, F, b⟩ := G.F_are_signs
  exact fn_mk F ⟨rfl, rfl, rfl, by decide +kernel, rfl, by decide +kernel, by decide +kernel⟩ b (r_are_signs.2 G)
theorem k_are_signs {m : Mo} {A : Ad} (G : Glb m A) : FnM m (tab A) 1 A.f_are_signs 2 g_are_signs := kr_are_signs G
set_option maxHeartbeats 4000000 in
noncomputable def r_is_size : { fb : Slots → M Fl // ∀ {m : Mo} {A : Ad} (_ : Glb m A), SSs m (tab A) 1 true true (defScope s_is_size) ["width", "height"] (ow0 ["width", "height"]) (defBody s_is_size) fb } := ⟨_, fun {m A} G =>
  (ss_one (s_ret (e_and (e_call rfl ((k_is_number G).mono (by decide)) G.g_is_number (a_cons (e_var 0) (a_cons e_int (a_cons (e_gint G.c_MAX_SIDE) a_nil)))) (e_and (e_call rfl ((k_is_number G).mono (by decide)) G.g_is_number (a_cons (e_var 1) (a_cons e_int (a_cons (e_gint G.c_MAX_SIDE) a_nil)))) (e_one (e_cmp c_le (e_bin o_mul (e_var 0) (e_var 1)) (e_gint G.c_MAX_CELLS)))))))⟩
noncomputable def g_is_size : List W → M W := bodyM 2 2 r_is_size.1
theorem kr_is_size {m : Mo} {A : Ad} (G : Glb m A) : FnM m (tab A) 2 A.f_is_size 2 g_is_size := by
  obtain ⟨fd, F, b⟩ := G.F_is_size
  exact fn_mk F ⟨rfl, rfl, rfl, by decide +kernel, rfl, by decide +kernel, by decide +kernel⟩ b (r_is_size.2 G)
theorem k_is_size {m : Mo} {A : Ad} (G : Glb m A) : FnM m (tab A) 2 A.f_is_size 2 g_is_size := kr_is_size G
set_option maxHeartbeats 4000000 in
noncomputable def r_check_size : { fb : Slots → M Fl // ∀ {m : Mo} {A : Ad} (_ : Glb m A), SSs m (tab A) 2 true true (defScope s_check_size) ["width", "height"] (ow0 ["width", "height"]) (defBody s_check_size) fb } := ⟨_, fun {m A} G =>
  (ss_one (s_if (t_not (t_val (e_call rfl ((k_is_size G).mono (by decide)) G.g_is_size (a_cons (e_var 0) (a_cons (e_var 1) a_nil)))))
      (ss_one s_never)
      ss_nil))⟩
noncomputable def g_check_size : List W → M W := bodyM 2 2 r_check_size.1
theorem kr_check_size {m : Mo} {A : Ad} (G : Glb m A) : FnM m (tab A) 3 A.f_check_size 2 g_check_size := by
  obtain ⟨fd, F, b⟩ := G.F_check_size
  exact fn_mk F ⟨rfl, rfl, rfl, by decide +kernel, rfl, by decide +kernel, by decide +kernel⟩ b (r_check_size.2 G)
theorem k_check_size {m : Mo} {A : Ad} (G : Glb m A) : FnM m (tab A) 3 A.f_check_size 2 g_check_size := kr_check_size G
set_option maxHeartbeats 4000000 in
noncomputable def r_BathD_initD : { fb : Slots → M Fl // ∀ {m : Mo} {A : Ad} (_ : Glb m A), SSs m (tab A) 2 true true (defScope s_BathD_initD) ["self", "width", "height", "cells"] (ow0 ["self", "width", "height", "cells"]) (defBody s_BathD_initD) fb } := ⟨_, fun {m A} G =>
  (ss_cons (s_if (t_not (t_val (e_call rfl ((k_is_number G).mono (by decide)) G.g_is_number (a_cons (e_var 1) (a_cons e_int (a_cons (e_gint G.c_MAX_SIDE) a_nil))))))
      (ss_one s_never)
      ss_nil)
    (ss_cons (s_if (t_not (t_val (e_call rfl ((k_is_size G).mono (by decide)) G.g_is_size (a_cons (e_var 1) (a_cons (e_var 2) a_nil)))))
      (ss_one s_never)
      ss_nil)
    (ss_cons (s_if (t_not (t_val (e_call rfl ((k_are_signs G).mono (by decide)) G.g_are_signs (a_cons (e_bin o_mul (e_var 1) (e_var 2)) (a_cons (e_var 3) a_nil)))))
      (ss_one s_never)
      ss_nil)
    (ss_one (s_slt G.f_Bath_parts (e_var 0) (e_tup (a_cons (e_var 1) (a_cons (e_var 2) (a_cons (e_var 3) a_nil)))))))))⟩
noncomputable def g_BathD_initD : List W → M W := bodyM 4 4 r_BathD_initD.1
theorem kr_BathD_initD {m : Mo} {A : Ad} (G : Glb m A) : FnM m (tab A) 3 A.f_BathD_initD 4 g_BathD_initD := by
  obtain ⟨fd, F, b⟩ := G.F_BathD_initD
  exact fn_mk F ⟨rfl, rfl, rfl, by decide +kernel, rfl, by decide +kernel, by decide +kernel⟩ b (r_BathD_initD.2 G)
theorem k_BathD_initD {m : Mo} {A : Ad} (G : Glb m A) : FnM m (tab A) 3 A.f_BathD_initD 4 g_BathD_initD := kr_BathD_initD G
set_option maxHeartbeats 4000000 in
noncomputable def r_Bath_width : { fb : Slots → M Fl // ∀ {m : Mo} {A : Ad} (_ : Glb m A), SSs m (tab A) 0 true true (defScope s_Bath_width) ["self"] (ow0 ["self"]) (defBody s_Bath_width) fb } := ⟨_, fun {m A} G =>
  (ss_one (s_ret (e_ix (e_slt G.f_Bath_parts (e_var 0)) e_int)))⟩
noncomputable def g_Bath_width : List W → M W := bodyM 1 1 r_Bath_width.1
theorem kr_Bath_width {m : Mo} {A : Ad} (G : Glb m A) : FnM m (tab A) 1 A.f_Bath_width 1 g_Bath_width := by
  obtain ⟨fd, F, b⟩ := G.F_Bath_width
  exact fn_mk F ⟨rfl, rfl, rfl, by decide +kernel, rfl, by decide +kernel, by decide +kernel⟩ b (r_Bath_width.2 G)
theorem k_Bath_width {m : Mo} {A : Ad} (G : Glb m A) : FnM m (tab A) 1 A.f_Bath_width 1 g_Bath_width := kr_Bath_width G
theorem calm_Bath_width : Calm g_Bath_width := calm_ret1 fun sl => ((CalmM.getSl _ _).bd fun w => .fld _ _ _ _).bd fun x => (CalmM.ret _).bd fun y => .ix _ _

set_option maxHeartbeats 4000000 in
noncomputable def r_Bath_height : { fb : Slots → M Fl // ∀ {m : Mo} {A : Ad} (_ : Glb m A), SSs m (tab A) 0 true true (defScope s_Bath_height) ["self"] (ow0 ["self"]) (defBody s_Bath_height) fb } := ⟨_, fun {m A} G =>
  (ss_one (s_ret (e_ix (e_slt G.f_Bath_parts (e_var 0)) e_int)))⟩
noncomputable def g_Bath_height : List W → M W := bodyM 1 1 r_Bath_height.1
theorem kr_Bath_height {m : Mo} {A : Ad} (G : Glb m A) : FnM m (tab A) 1 A.f_Bath_height 1 g_Bath_height := by
  obtain ⟨fd, F, b⟩ := G.F_Bath_height
  exact fn_mk F ⟨rfl, rfl, rfl, by decide +kernel, rfl, by decide +kernel, by decide +kernel⟩ b (r_Bath_height.2 G)
theorem k_Bath_height {m : Mo} {A : Ad} (G : Glb m A) : FnM m (tab A) 1 A.f_Bath_height 1 g_Bath_height := kr_Bath_height G
theorem calm_Bath_height : Calm g_Bath_height := calm_ret1 fun sl => ((CalmM.getSl _ _).bd fun w => .fld _ _ _ _).bd fun x => (CalmM.ret _).bd fun y => .ix _ _

set_option maxHeartbeats 4000000 in
noncomputable def r_Bath_cells : { fb : Slots → M Fl // ∀ {m : Mo} {A : Ad} (_ : Glb m A), SSs m (tab A) 0 true true (defScope s_Bath_cells) ["self"] (ow0 ["self"]) (defBody s_Bath_cells) fb } := ⟨_, fun {m A} G =>
  (ss_one (s_ret (e_ix (e_slt G.f_Bath_parts (e_var 0)) e_int)))⟩
noncomputable def g_Bath_cells : List W → M W := bodyM 1 1 r_Bath_cells.1
theorem kr_Bath_cells {m : Mo} {A : Ad} (G : Glb m A) : FnM m (tab A) 1 A.f_Bath_cells 1 g_Bath_cells := by
  obtain ⟨fd, F, b⟩ := G.F_Bath_cells
  exact fn_mk F ⟨rfl, rfl, rfl, by decide +kernel, rfl, by decide +kernel, by decide +kernel⟩ b (r_Bath_cells.2 G)
theorem k_Bath_cells {m : Mo} {A : Ad} (G : Glb m A) : FnM m (tab A) 1 A.f_Bath_cells 1 g_Bath_cells := kr_Bath_cells G
theorem calm_Bath_cells : Calm g_Bath_cells := calm_ret1 fun sl => ((CalmM.getSl _ _).bd fun w => .fld _ _ _ _).bd fun x => (CalmM.ret _).bd fun y => .ix _ _

set_option maxHeartbeats 4000000 in
noncomputable def r_BathD_lenD : { fb : Slots → M Fl // ∀ {m : Mo} {A : Ad} (_ : Glb m A), SSs m (tab A) 0 true true (defScope s_BathD_lenD) ["self"] (ow0 ["self"]) (defBody s_BathD_lenD) fb } := ⟨_, fun {m A} G =>
  (ss_one (s_ret (e_blt n_len G.n_len (a_cons (e_ix (e_slt G.f_Bath_parts (e_var 0)) e_int) a_nil) PySem.boot_len)))⟩
noncomputable def g_BathD_lenD : List W → M W := bodyM 1 1 r_BathD_lenD.1
theorem kr_BathD_lenD {m : Mo} {A : Ad} (G : Glb m A) : FnM m (tab A) 1 A.f_BathD_lenD 1 g_BathD_lenD := by
  obtain ⟨fd, F, b⟩ := G.F_BathD_lenD
  exact fn_mk F ⟨rfl, rfl, rfl, by decide +kernel, rfl, by decide +kernel, by decide +kernel⟩ b (r_BathD_lenD.2 G)
theorem k_BathD_lenD {m : Mo} {A : Ad} (G : Glb m A) : FnM m (tab A) 1 A.f_BathD_lenD 1 g_BathD_lenD := kr_BathD_lenD G
set_option maxHeartbeats 4000000 in
noncomputable def r_are_strides : { fb : Slots → M Fl // ∀ {m : Mo} {A : Ad} (_ : Glb m A), SSs m (tab A) 1 true true (defScope s_are_strides) ["value", "count", "stride"] (ow0 ["value", "count", "stride"]) (defBody s_are_strides) fb } := ⟨_, fun {m A} G =>
  (ss_cons (s_if (t_w (w_or (t_not (t_val (e_blt n_isi G.n_isinstance (a_cons (e_var 0) (a_cons (e_ty (id := "tuple") G.n_tuple (by decide +kernel)) a_nil)) (by decide +kernel)))) (w_or1 (t_cmp c_ne (e_blt n_len G.n_len (a_cons (e_var 0) a_nil) PySem.boot_len) (e_var 1)))))
      (ss_one (s_ret e_bl))
      ss_nil)
    (ss_one (s_ret (e_blt (n_all rfl) G.n_all (a_cons (e_lc [("stride", 2)] rfl (it_val (e_var 0)) (by decide +kernel) (tg_one 2) ts_nil (e_call rfl ((k_is_number G).mono (by decide)) G.g_is_number (a_cons (e_var 2) (a_cons (e_bin o_sub e_int (e_gint G.c_MAX_STRIDE)) (a_cons (e_gint G.c_MAX_STRIDE) a_nil))))) a_nil) (by decide +kernel)))))⟩
noncomputable def g_are_strides : List W → M W := bodyM 3 2 r_are_strides.1
theorem kr_are_strides {m : Mo} {A : Ad} (G : Glb m A) : FnM m (tab A) 2 A.f_are_strides 2 g_are_strides := by
  obtain ⟨fd, F, b⟩ := G.F_are_strides
  exact fn_mk F ⟨rfl, rfl, rfl, by decide +kernel, rfl, by decide +kernel, by decide +kernel⟩ b (r_are_strides.2 G)
theorem k_are_strides {m : Mo} {A : Ad} (G : Glb m A) : FnM m (tab A) 2 A.f_are_strides 2 g_are_strides := kr_are_strides G
set_option maxHeartbeats 4000000 in
noncomputable def r_are_cells : { fb : Slots → M Fl // ∀ {m : Mo} {A : Ad} (_ : Glb m A), SSs m (tab A) 1 true true (defScope s_are_cells) ["size", "value", "cell", "one", "other"] (ow0 ["size", "value", "cell", "one", "other"]) (defBody s_are_cells) fb } := ⟨_, fun {m A} G =>
  (ss_cons (s_if (t_w (w_or (t_not (t_val (e_blt n_isi G.n_isinstance (a_cons (e_var 1) (a_cons (e_ty (id := "tuple") G.n_tuple (by decide +kernel)) a_nil)) (by decide +kernel)))) (w_or (t_cmp c_eq (e_var 1) (e_tup a_nil)) (w_or1 (t_not (t_val (e_blt (n_all rfl) G.n_all (a_cons (e_lc [("cell", 2)] rfl (it_val (e_var 1)) (by decide +kernel) (tg_one 2) ts_nil (e_call rfl ((k_is_number G).mono (by decide)) G.g_is_number (a_cons (e_var 2) (a_cons e_int (a_cons (e_bin o_sub (e_var 0) e_int) a_nil))))) a_nil) (by decide +kernel))))))))
      (ss_one (s_ret e_bl))
      ss_nil)
    (ss_one (s_ret (e_blt (n_all rfl) G.n_all (a_cons (e_lc [("one", 3), ("other", 4)] rfl (it_zip G.n_zip (a_cons (e_var 1) (a_cons (e_slice (e_var 1) (o_some e_int) o_no) a_nil))) (by decide +kernel) (tg_many ["one", "other"] [⟨95, 32, 95, 35⟩, ⟨95, 37, 95, 42⟩] [3, 4] rfl (hn := names_at (by decide +kernel))) ts_nil (e_cmp c_lt (e_var 3) (e_var 4))) a_nil) (by decide +kernel)))))⟩
noncomputable def g_are_cells : List W → M W := bodyM 5 2 r_are_cells.1
theorem kr_are_cells {m : Mo} {A : Ad} (G : Glb m A) : FnM m (tab A) 2 A.f_are_cells 2 g_are_cells := by
  obtain ⟨fd, F, b⟩ := G.F_are_cells
  exact fn_mk F ⟨rfl, rfl, rfl, by decide +kernel, rfl, by decide +kernel, by decide +kernel⟩ b (r_are_cells.2 G)
theorem k_are_cells {m : Mo} {A : Ad} (G : Glb m A) : FnM m (tab A) 2 A.f_are_cells 2 g_are_cells := kr_are_cells G
set_option maxHeartbeats 4000000 in
noncomputable def r_is_draw : { fb : Slots → M Fl // ∀ {m : Mo} {A : Ad} (_ : Glb m A), SSs m (tab A) 2 true true (defScope s_is_draw) ["width", "height", "value"] (ow0 ["width", "height", "value"]) (defBody s_is_draw) fb } := ⟨_, fun {m A} G =>
  (ss_cons (s_if (t_w (w_or (t_not (t_val (e_blt n_isi G.n_isinstance (a_cons (e_var 2) (a_cons (e_ty (id := "tuple") G.n_tuple (by decide +kernel)) a_nil)) (by decide +kernel)))) (w_or (t_cmp c_ne (e_blt n_len G.n_len (a_cons (e_var 2) a_nil) PySem.boot_len) e_int) (w_or1 (t_cmp c_notin (e_ix (e_var 2) e_int) (e_tup (a_cons (e_gstr G.c_RAKE) (a_cons (e_gstr G.c_COMB) a_nil))))))))
      (ss_one (s_ret e_bl))
      ss_nil)
    (ss_one (s_ret (e_call rfl ((k_are_strides G).mono (by decide)) G.g_are_strides (a_cons (e_ix (e_var 2) e_int) (a_cons (e_if (t_cmp c_eq (e_ix (e_var 2) e_int) (e_gstr G.c_RAKE)) (e_var 1) (e_var 0)) a_nil))))))⟩
noncomputable def g_is_draw : List W → M W := bodyM 3 3 r_is_draw.1
theorem kr_is_draw {m : Mo} {A : Ad} (G : Glb m A) : FnM m (tab A) 3 A.f_is_draw 3 g_is_draw := by
  obtain ⟨fd, F, b⟩ := G.F_is_draw
  exact fn_mk F ⟨rfl, rfl, rfl, by decide +kernel, rfl, by decide +kernel, by decide +kernel⟩ b (r_is_draw.2 G)
theorem k_is_draw {m : Mo} {A : Ad} (G : Glb m A) : FnM m (tab A) 3 A.f_is_draw 3 g_is_draw := kr_is_draw G
set_option maxHeartbeats 4000000 in
noncomputable def r_is_deed : { fb : Slots → M Fl // ∀ {m : Mo} {A : Ad} (_ : Glb m A), SSs m (tab A) 3 true true (defScope s_is_deed) ["width", "height", "value"] (ow0 ["width", "height", "value"]) (defBody s_is_deed) fb } := ⟨_, fun {m A} G =>
  (ss_cons (s_if (t_val (e_call rfl ((k_is_draw G).mono (by decide)) G.g_is_draw (a_cons (e_var 0) (a_cons (e_var 1) (a_cons (e_var 2) a_nil)))))
      (ss_one (s_ret e_bl))
      ss_nil)
    (ss_cons (s_if (t_w (w_or (t_not (t_val (e_blt n_isi G.n_isinstance (a_cons (e_var 2) (a_cons (e_ty (id := "tuple") G.n_tuple (by decide +kernel)) a_nil)) (by decide +kernel)))) (w_or1 (t_cmp c_eq (e_var 2) (e_tup a_nil)))))
      (ss_one (s_ret e_bl))
      ss_nil)
    (ss_cons (s_if (t_cmp c_eq (e_ix (e_var 2) e_int) (e_gstr G.c_DROP))
      (ss_one (s_ret (e_and (e_cmp c_eq (e_blt n_len G.n_len (a_cons (e_var 2) a_nil) PySem.boot_len) e_int) (e_and (e_call rfl ((k_is_number G).mono (by decide)) G.g_is_number (a_cons (e_ix (e_var 2) e_int) (a_cons e_int (a_cons (e_bin o_sub (e_bin o_mul (e_var 0) (e_var 1)) e_int) a_nil)))) (e_one (e_call rfl ((k_is_letter G).mono (by decide)) G.g_is_letter (a_cons (e_ix (e_var 2) e_int) a_nil)))))))
      ss_nil)
    (ss_one (s_ret (e_and (e_cmp c_eq (e_ix (e_var 2) e_int) (e_gstr G.c_PAPER)) (e_and (e_cmp c_eq (e_blt n_len G.n_len (a_cons (e_var 2) a_nil) PySem.boot_len) e_int) (e_one (e_call rfl ((k_are_cells G).mono (by decide)) G.g_are_cells (a_cons (e_bin o_mul (e_var 0) (e_var 1)) (a_cons (e_ix (e_var 2) e_int) a_nil)))))))))))⟩
noncomputable def g_is_deed : List W → M W := bodyM 3 3 r_is_deed.1
theorem kr_is_deed {m : Mo} {A : Ad} (G : Glb m A) : FnM m (tab A) 4 A.f_is_deed 3 g_is_deed := by
  obtain ⟨fd, F, b⟩ := G.F_is_deed
  exact fn_mk F ⟨rfl, rfl, rfl, by decide +kernel, rfl, by decide +kernel, by decide +kernel⟩ b (r_is_deed.2 G)
theorem k_is_deed {m : Mo} {A : Ad} (G : Glb m A) : FnM m (tab A) 4 A.f_is_deed 3 g_is_deed := kr_is_deed G
set_option maxHeartbeats 4000000 in
noncomputable def r_check_recipe : { fb : Slots → M Fl // ∀ {m : Mo} {A : Ad} (_ : Glb m A), SSs m (tab A) 4 true true (defScope s_check_recipe) ["width", "height", "recipe", "index", "deed"] (ow0 ["width", "height", "recipe", "index", "deed"]) (defBody s_check_recipe) fb } := ⟨_, fun {m A} G =>
  (ss_one (s_for rfl (it_enumerate G.n_enumerate (a_cons (e_var 2) a_nil)) (g_tup (n := 2) rfl (gs_cons (g_name 3) (gs_cons (g_name 4) gs_nil)))
      (ss_one (s_if (t_w (w_or (t_cmp c_eq (e_var 3) (e_gint G.c_MAX_DEEDS)) (w_or1 (t_not (t_val (e_call rfl ((k_is_deed G).mono (by decide)) G.g_is_deed (a_cons (e_var 0) (a_cons (e_var 1) (a_cons (e_var 4) a_nil)))))))))
      (ss_one (s_raiseF rfl 3 (xfk_InvalidRecipe G) (by decide) (e_var 3)))
      ss_nil))))⟩
noncomputable def g_check_recipe : List W → M W := bodyM 5 3 r_check_recipe.1
theorem kr_check_recipe {m : Mo} {A : Ad} (G : Glb m A) : FnM m (tab A) 5 A.f_check_recipe 3 g_check_recipe := by
  obtain ⟨fd, F, b⟩ := G.F_check_recipe
  exact fn_mk F ⟨rfl, rfl, rfl, by decide +kernel, rfl, by decide +kernel, by decide +kernel⟩ b (r_check_recipe.2 G)
theorem k_check_recipe {m : Mo} {A : Ad} (G : Glb m A) : FnM m (tab A) 5 A.f_check_recipe 3 g_check_recipe := kr_check_recipe G
set_option maxHeartbeats 4000000 in
noncomputable def r_drawn : { fb : Slots → M Fl // ∀ {m : Mo} {A : Ad} (_ : Glb m A), SSs m (tab A) 0 true true (defScope s_drawn) ["width", "height", "deed", "kind", "strides", "found", "cell", "row", "place"] (ow0 ["width", "height", "deed", "kind", "strides", "found", "cell", "row", "place"]) (defBody s_drawn) fb } := ⟨_, fun {m A} G =>
  (ss_cons (s_asg (e_var 2) (g_tup (n := 2) rfl (gs_cons (g_name 3) (gs_cons (g_name 4) gs_nil))))
    (ss_cons (s_set 5 (e_lst a_nil))
    (ss_cons (s_for rfl (it_rng1 G.n_range (a_cons (e_bin o_mul (e_var 0) (e_var 1)) a_nil)) (g_name 6)
      (ss_cons (s_par2 7 8 rfl (a_cons (e_bin o_fdiv (e_var 6) (e_var 0)) (a_cons (e_bin o_sub (e_var 6) (e_bin o_mul (e_bin o_fdiv (e_var 6) (e_var 0)) (e_var 0))) a_nil)) (hw := (fun X g => by rw [env_sc g]; rfl)))
    (ss_cons (s_if (t_cmp c_eq (e_var 3) (e_gstr G.c_RAKE))
      (ss_one (s_set 8 (e_bin o_mod (e_bty n_int G.n_int (a_cons (e_bin o_sub (e_var 8) (e_ix (e_var 4) (e_var 7))) a_nil) (by decide +kernel)) (e_var 0))))
      (ss_one (s_set 7 (e_bin o_mod (e_bty n_int G.n_int (a_cons (e_bin o_sub (e_var 7) (e_ix (e_var 4) (e_var 8))) a_nil) (by decide +kernel)) (e_var 1)))))
    (ss_one (s_expr (e_bm PySem.F.plainAttrs_list PySem.F.slot_list_append PySem.F.type_list_append m_append (e_var 5) (a_cons (e_bin o_add (e_bin o_mul (e_var 7) (e_var 0)) (e_var 8)) a_nil)))))))
    (ss_one (s_ret (e_var 5))))))⟩
noncomputable def g_drawn : List W → M W := bodyM 9 3 r_drawn.1
theorem kr_drawn {m : Mo} {A : Ad} (G : Glb m A) : FnM m (tab A) 1 A.f_drawn 3 g_drawn := by
  obtain ⟨fd, F, b⟩ := G.F_drawn
  exact fn_mk F ⟨rfl, rfl, rfl, by decide +kernel, rfl, by decide +kernel, by decide +kernel⟩ b (r_drawn.2 G)
theorem k_drawn {m : Mo} {A : Ad} (G : Glb m A) : FnM m (tab A) 1 A.f_drawn 3 g_drawn := kr_drawn G
set_option maxHeartbeats 4000000 in
noncomputable def r_pushed : { fb : Slots → M Fl // ∀ {m : Mo} {A : Ad} (_ : Glb m A), SSs m (tab A) 0 true true (defScope s_pushed) ["width", "height", "cell", "found", "row", "place", "other"] (ow0 ["width", "height", "cell", "found", "row", "place", "other"]) (defBody s_pushed) fb } := ⟨_, fun {m A} G =>
  (ss_cons (s_set 3 (e_lrng rfl G.n_list G.n_range (e_bin o_mul (e_var 0) (e_var 1))))
    (ss_cons (s_par2 4 5 rfl (a_cons (e_bin o_fdiv (e_var 2) (e_var 0)) (a_cons (e_bin o_sub (e_var 2) (e_bin o_mul (e_bin o_fdiv (e_var 2) (e_var 0)) (e_var 0))) a_nil)) (hw := (fun X g => by rw [env_sc g]; rfl)))
    (ss_cons (s_for rfl (it_rng1 G.n_range (a_cons (e_var 0) a_nil)) (g_name 6)
      (ss_one (s_asg (e_bin o_sub (e_bin o_add (e_bin o_add (e_bin o_mul (e_var 4) (e_var 0)) (e_var 6)) (e_bty n_int G.n_int (a_cons (e_cmp c_lt (e_var 6) (e_var 5)) a_nil) (by decide +kernel))) (e_bty n_int G.n_int (a_cons (e_cmp c_gt (e_var 6) (e_var 5)) a_nil) (by decide +kernel))) (g_ix (e_var 3) (e_bin o_add (e_bin o_mul (e_var 4) (e_var 0)) (e_var 6))))))
    (ss_cons (s_for rfl (it_rng1 G.n_range (a_cons (e_var 1) a_nil)) (g_name 6)
      (ss_one (s_asg (e_bin o_add (e_bin o_mul (e_bin o_sub (e_bin o_add (e_var 6) (e_bty n_int G.n_int (a_cons (e_cmp c_lt (e_var 6) (e_var 4)) a_nil) (by decide +kernel))) (e_bty n_int G.n_int (a_cons (e_cmp c_gt (e_var 6) (e_var 4)) a_nil) (by decide +kernel))) (e_var 0)) (e_var 5)) (g_ix (e_var 3) (e_bin o_add (e_bin o_mul (e_var 6) (e_var 0)) (e_var 5))))))
    (ss_cons (s_asg e_non (g_ix (e_var 3) (e_var 2)))
    (ss_one (s_ret (e_var 3))))))))⟩
noncomputable def g_pushed : List W → M W := bodyM 7 3 r_pushed.1
theorem kr_pushed {m : Mo} {A : Ad} (G : Glb m A) : FnM m (tab A) 1 A.f_pushed 3 g_pushed := by
  obtain ⟨fd, F, b⟩ := G.F_pushed
  exact fn_mk F ⟨rfl, rfl, rfl, by decide +kernel, rfl, by decide +kernel, by decide +kernel⟩ b (r_pushed.2 G)
theorem k_pushed {m : Mo} {A : Ad} (G : Glb m A) : FnM m (tab A) 1 A.f_pushed 3 g_pushed := kr_pushed G
set_option maxHeartbeats 4000000 in
noncomputable def r_TrayD_initD : { fb : Slots → M Fl // ∀ {m : Mo} {A : Ad} (_ : Glb m A), SSs m (tab A) 0 true true (defScope s_TrayD_initD) ["self", "width", "height", "things"] (ow0 ["self", "width", "height", "things"]) (defBody s_TrayD_initD) fb } := ⟨_, fun {m A} G =>
  (ss_cons (s_fld G.f_Tray_size (e_var 0) (e_tup (a_cons (e_var 1) (a_cons (e_var 2) a_nil))))
    (ss_cons (s_fld G.f_Tray_things (e_var 0) (e_bty (n_list rfl) G.n_list (a_cons (e_var 3) a_nil) (by decide +kernel)))
    (ss_one (s_fld G.f_Tray_papers (e_var 0) (e_lst a_nil)))))⟩
noncomputable def g_TrayD_initD : List W → M W := bodyM 4 4 r_TrayD_initD.1
theorem kr_TrayD_initD {m : Mo} {A : Ad} (G : Glb m A) : FnM m (tab A) 1 A.f_TrayD_initD 4 g_TrayD_initD := by
  obtain ⟨fd, F, b⟩ := G.F_TrayD_initD
  exact fn_mk F ⟨rfl, rfl, rfl, by decide +kernel, rfl, by decide +kernel, by decide +kernel⟩ b (r_TrayD_initD.2 G)
theorem k_TrayD_initD {m : Mo} {A : Ad} (G : Glb m A) : FnM m (tab A) 1 A.f_TrayD_initD 4 g_TrayD_initD := kr_TrayD_initD G
set_option maxHeartbeats 4000000 in
noncomputable def r_Tray_do : { fb : Slots → M Fl // ∀ {m : Mo} {A : Ad} (_ : Glb m A), SSs m (tab A) 1 true true (defScope s_Tray_do) ["self", "deed", "fresh", "width", "height", "cell", "thing", "ways"] (ow0 ["self", "deed", "fresh", "width", "height", "cell", "thing", "ways"]) (defBody s_Tray_do) fb } := ⟨_, fun {m A} G =>
  (ss_cons (s_asg (e_fld G.f_Tray_size (e_var 0)) (g_tup (n := 2) rfl (gs_cons (g_name 3) (gs_cons (g_name 4) gs_nil))))
    (ss_cons (s_if (t_cmp c_eq (e_ix (e_var 1) e_int) (e_gstr G.c_PAPER))
      (ss_cons (s_expr (e_bm PySem.F.plainAttrs_list PySem.F.slot_list_append PySem.F.type_list_append m_append (e_fld G.f_Tray_papers (e_var 0)) (a_cons (e_lc [("cell", 5)] rfl (it_val (e_ix (e_var 1) e_int)) (by decide +kernel) (tg_one 5) ts_nil (e_ix (e_fld G.f_Tray_things (e_var 0)) (e_var 5))) a_nil)))
    (ss_cons (s_fld G.f_Tray_things (e_var 0) (e_lc [("cell", 5), ("thing", 6)] rfl (it_enumerate G.n_enumerate (a_cons (e_fld G.f_Tray_things (e_var 0)) a_nil)) (by decide +kernel) (tg_many ["cell", "thing"] [⟨143, 67, 143, 71⟩, ⟨143, 73, 143, 78⟩] [5, 6] rfl (hn := names_at (by decide +kernel))) ts_nil (e_if (t_cmp c_in (e_var 5) (e_ix (e_var 1) e_int)) (e_var 2) (e_var 6))))
    (ss_one s_retN)))
      ss_nil)
    (ss_cons (s_set 7 (e_if (t_cmp c_eq (e_ix (e_var 1) e_int) (e_gstr G.c_DROP)) (e_call rfl ((k_pushed G).mono (by decide)) G.g_pushed (a_cons (e_var 3) (a_cons (e_var 4) (a_cons (e_ix (e_var 1) e_int) a_nil)))) (e_call rfl ((k_drawn G).mono (by decide)) G.g_drawn (a_cons (e_var 3) (a_cons (e_var 4) (a_cons (e_var 1) a_nil))))))
    (ss_one (s_fld G.f_Tray_things (e_var 0) (e_lc [("cell", 5)] rfl (it_val (e_var 7)) (by decide +kernel) (tg_one 5) ts_nil (e_if (t_cmp c_is (e_var 5) e_non) (e_var 2) (e_ix (e_fld G.f_Tray_things (e_var 0)) (e_var 5)))))))))⟩
noncomputable def g_Tray_do : List W → M W := bodyM 8 3 r_Tray_do.1
theorem kr_Tray_do {m : Mo} {A : Ad} (G : Glb m A) : FnM m (tab A) 2 A.f_Tray_do 3 g_Tray_do := by
  obtain ⟨fd, F, b⟩ := G.F_Tray_do
  exact fn_mk F ⟨rfl, rfl, rfl, by decide +kernel, rfl, by decide +kernel, by decide +kernel⟩ b (r_Tray_do.2 G)
theorem k_Tray_do {m : Mo} {A : Ad} (G : Glb m A) : FnM m (tab A) 2 A.f_Tray_do 3 g_Tray_do := kr_Tray_do G
set_option maxHeartbeats 4000000 in
noncomputable def r_all_steps : { fb : Slots → M Fl // ∀ {m : Mo} {A : Ad} (_ : Glb m A), SSs m (tab A) 2 true true (defScope s_all_steps) ["width", "height", "cells", "recipe", "tray", "found", "deed"] (ow0 ["width", "height", "cells", "recipe", "tray", "found", "deed"]) (defBody s_all_steps) fb } := ⟨_, fun {m A} G =>
  (ss_cons (s_set 4 (e_make false 14 rfl G.mk_Tray (k_TrayD_initD G) G.g_Tray (a_cons (e_var 0) (a_cons (e_var 1) (a_cons (e_var 2) a_nil)))))
    (ss_cons (s_set 5 (e_lst (a_cons (e_var 2) a_nil)))
    (ss_cons (s_for rfl (it_val (e_var 3)) (g_name 6)
      (ss_cons (s_expr (e_meth (pl := _) 14 rfl (e_var 4) G.cl_Tray G.m_Tray_do (k_Tray_do G) (a_cons (e_var 6) (a_cons (e_if (t_cmp c_eq (e_ix (e_var 6) e_int) (e_gstr G.c_DROP)) (e_ix (e_var 6) e_int) (e_gstr G.c_NOTHING)) a_nil)) (by show _ ∉ (["size", "things", "papers"] : List Str); decide +kernel)))
    (ss_one (s_expr (e_bm PySem.F.plainAttrs_list PySem.F.slot_list_append PySem.F.type_list_append m_append (e_var 5) (a_cons (e_bm PySem.F.plainAttrs_str PySem.F.slot_str_join PySem.F.type_str_join m_join e_str (a_cons (e_fld G.f_Tray_things (e_var 4)) a_nil)) a_nil))))))
    (ss_one (s_ret (e_var 5))))))⟩
noncomputable def g_all_steps : List W → M W := bodyM 7 4 r_all_steps.1
theorem kr_all_steps {m : Mo} {A : Ad} (G : Glb m A) : FnM m (tab A) 3 A.f_all_steps 4 g_all_steps := by
  obtain ⟨fd, F, b⟩ := G.F_all_steps
  exact fn_mk F ⟨rfl, rfl, rfl, by decide +kernel, rfl, by decide +kernel, by decide +kernel⟩ b (r_all_steps.2 G)
theorem k_all_steps {m : Mo} {A : Ad} (G : Glb m A) : FnM m (tab A) 3 A.f_all_steps 4 g_all_steps := kr_all_steps G
set_option maxHeartbeats 4000000 in
noncomputable def r_done : { fb : Slots → M Fl // ∀ {m : Mo} {A : Ad} (_ : Glb m A), SSs m (tab A) 5 true true (defScope s_done) ["bath", "recipe", "tray", "deed", "signs"] (ow0 ["bath", "recipe", "tray", "deed", "signs"]) (defBody s_done) fb } := ⟨_, fun {m A} G =>
  (ss_cons (s_expr (e_call rfl ((k_check_recipe G).mono (by decide)) G.g_check_recipe (a_cons (e_propS rfl G.p_Bath_width (k_Bath_width G) calm_Bath_width (e_var 0)) (a_cons (e_propS rfl G.p_Bath_height (k_Bath_height G) calm_Bath_height (e_var 0)) (a_cons (e_var 1) a_nil)))))
    (ss_cons (s_set 2 (e_make false 14 rfl G.mk_Tray (k_TrayD_initD G) G.g_Tray (a_cons (e_propS rfl G.p_Bath_width (k_Bath_width G) calm_Bath_width (e_var 0)) (a_cons (e_propS rfl G.p_Bath_height (k_Bath_height G) calm_Bath_height (e_var 0)) (a_cons (e_propS rfl G.p_Bath_cells (k_Bath_cells G) calm_Bath_cells (e_var 0)) a_nil)))))
    (ss_cons (s_for rfl (it_val (e_var 1)) (g_name 3)
      (ss_one (s_expr (e_meth (pl := _) 14 rfl (e_var 2) G.cl_Tray G.m_Tray_do (k_Tray_do G) (a_cons (e_var 3) (a_cons (e_if (t_cmp c_eq (e_ix (e_var 3) e_int) (e_gstr G.c_DROP)) (e_ix (e_var 3) e_int) (e_gstr G.c_NOTHING)) a_nil)) (by show _ ∉ (["size", "things", "papers"] : List Str); decide +kernel)))))
    (ss_one (s_ret (e_tup (a_cons (e_make true 13 rfl G.mk_Bath (k_BathD_initD G) G.g_Bath (a_cons (e_propS rfl G.p_Bath_width (k_Bath_width G) calm_Bath_width (e_var 0)) (a_cons (e_propS rfl G.p_Bath_height (k_Bath_height G) calm_Bath_height (e_var 0)) (a_cons (e_bm PySem.F.plainAttrs_str PySem.F.slot_str_join PySem.F.type_str_join m_join e_str (a_cons (e_fld G.f_Tray_things (e_var 2)) a_nil)) a_nil)))) (a_cons (e_lc [("signs", 4)] rfl (it_val (e_fld G.f_Tray_papers (e_var 2))) (by decide +kernel) (tg_one 4) ts_nil (e_bm PySem.F.plainAttrs_str PySem.F.slot_str_join PySem.F.type_str_join m_join e_str (a_cons (e_var 4) a_nil))) a_nil))))))))⟩
noncomputable def g_done : List W → M W := bodyM 5 2 r_done.1
theorem kr_done {m : Mo} {A : Ad} (G : Glb m A) : FnM m (tab A) 6 A.f_done 2 g_done := by
  obtain ⟨fd, F, b⟩ := G.F_done
  exact fn_mk F ⟨rfl, rfl, rfl, by decide +kernel, rfl, by decide +kernel, by decide +kernel⟩ b (r_done.2 G)
theorem k_done {m : Mo} {A : Ad} (G : Glb m A) : FnM m (tab A) 6 A.f_done 2 g_done := kr_done G
set_option maxHeartbeats 4000000 in
noncomputable def r_check_cell : { fb : Slots → M Fl // ∀ {m : Mo} {A : Ad} (_ : Glb m A), SSs m (tab A) 2 true true (defScope s_check_cell) ["bath", "cell"] (ow0 ["bath", "cell"]) (defBody s_check_cell) fb } := ⟨_, fun {m A} G =>
  (ss_one (s_if (t_not (t_val (e_call rfl ((k_is_number G).mono (by decide)) G.g_is_number (a_cons (e_var 1) (a_cons e_int (a_cons (e_bin o_sub (e_blt (n_lenOwn rfl G.len_Bath (k_BathD_lenD G)) G.n_len (a_cons (e_var 0) a_nil) PySem.boot_len) e_int) a_nil))))))
      (ss_one s_never)
      ss_nil))⟩
noncomputable def g_check_cell : List W → M W := bodyM 2 2 r_check_cell.1
theorem kr_check_cell {m : Mo} {A : Ad} (G : Glb m A) : FnM m (tab A) 3 A.f_check_cell 2 g_check_cell := by
  obtain ⟨fd, F, b⟩ := G.F_check_cell
  exact fn_mk F ⟨rfl, rfl, rfl, by decide +kernel, rfl, by decide +kernel, by decide +kernel⟩ b (r_check_cell.2 G)
theorem k_check_cell {m : Mo} {A : Ad} (G : Glb m A) : FnM m (tab A) 3 A.f_check_cell 2 g_check_cell := kr_check_cell G
set_option maxHeartbeats 4000000 in
noncomputable def r_ahead_of : { fb : Slots → M Fl // ∀ {m : Mo} {A : Ad} (_ : Glb m A), SSs m (tab A) 2 true true (defScope s_ahead_of) ["bath", "cell", "found", "other", "origin"] (ow0 ["bath", "cell", "found", "other", "origin"]) (defBody s_ahead_of) fb } := ⟨_, fun {m A} G =>
  (ss_cons (s_if (t_cmp c_eq (e_ix (e_propS rfl G.p_Bath_cells (k_Bath_cells G) calm_Bath_cells (e_var 0)) (e_var 1)) (e_gstr G.c_NOTHING))
      (ss_one (s_ret e_non))
      ss_nil)
    (ss_cons (s_set 2 e_dnew)
    (ss_cons (s_for rfl (it_enumerate G.n_enumerate (a_cons (e_call rfl ((k_pushed G).mono (by decide)) G.g_pushed (a_cons (e_propS rfl G.p_Bath_width (k_Bath_width G) calm_Bath_width (e_var 0)) (a_cons (e_propS rfl G.p_Bath_height (k_Bath_height G) calm_Bath_height (e_var 0)) (a_cons (e_var 1) a_nil)))) a_nil)) (g_tup (n := 2) rfl (gs_cons (g_name 3) (gs_cons (g_name 4) gs_nil)))
      (ss_one (s_if (t_w (w_and (t_cmp c_isnot (e_var 4) e_non) (w_and1 (t_cmp c_ne (e_dsetd (e_var 2) (e_var 4) (e_ix (e_propS rfl G.p_Bath_cells (k_Bath_cells G) calm_Bath_cells (e_var 0)) (e_var 3))) (e_ix (e_propS rfl G.p_Bath_cells (k_Bath_cells G) calm_Bath_cells (e_var 0)) (e_var 3))))))
      (ss_one (s_ret e_non))
      ss_nil)))
    (ss_one (s_ret (e_lc [("other", 3)] rfl (it_rng1 G.n_range (a_cons (e_blt (n_lenOwn rfl G.len_Bath (k_BathD_lenD G)) G.n_len (a_cons (e_var 0) a_nil) PySem.boot_len) a_nil)) (by decide +kernel) (tg_one 3) ts_nil (e_dget2 (e_var 2) (e_var 3) e_non)))))))⟩
noncomputable def g_ahead_of : List W → M W := bodyM 5 2 r_ahead_of.1
theorem kr_ahead_of {m : Mo} {A : Ad} (G : Glb m A) : FnM m (tab A) 3 A.f_ahead_of 2 g_ahead_of := by
  obtain ⟨fd, F, b⟩ := G.F_ahead_of
  exact fn_mk F ⟨rfl, rfl, rfl, by decide +kernel, rfl, by decide +kernel, by decide +kernel⟩ b (r_ahead_of.2 G)
theorem k_ahead_of {m : Mo} {A : Ad} (G : Glb m A) : FnM m (tab A) 3 A.f_ahead_of 2 g_ahead_of := kr_ahead_of G
set_option maxHeartbeats 4000000 in
noncomputable def r_last_drops : { fb : Slots → M Fl // ∀ {m : Mo} {A : Ad} (_ : Glb m A), SSs m (tab A) 3 true true (defScope s_last_drops) ["bath", "cell"] (ow0 ["bath", "cell"]) (defBody s_last_drops) fb } := ⟨_, fun {m A} G =>
  (ss_one (s_ret (e_bty n_tuple G.n_tuple (a_cons (e_lc [("cell", 1)] rfl (it_rng1 G.n_range (a_cons (e_blt (n_lenOwn rfl G.len_Bath (k_BathD_lenD G)) G.n_len (a_cons (e_var 0) a_nil) PySem.boot_len) a_nil)) (by decide +kernel) (tg_one 1) (ts_one (t_cmp c_isnot (e_call rfl ((k_ahead_of G).mono (by decide)) G.g_ahead_of (a_cons (e_var 0) (a_cons (e_var 1) a_nil))) e_non)) (e_var 1)) a_nil) (by decide +kernel))))⟩
noncomputable def g_last_drops : List W → M W := bodyM 2 1 r_last_drops.1
theorem kr_last_drops {m : Mo} {A : Ad} (G : Glb m A) : FnM m (tab A) 4 A.f_last_drops 1 g_last_drops := by
  obtain ⟨fd, F, b⟩ := G.F_last_drops
  exact fn_mk F ⟨rfl, rfl, rfl, by decide +kernel, rfl, by decide +kernel, by decide +kernel⟩ b (r_last_drops.2 G)
theorem k_last_drops {m : Mo} {A : Ad} (G : Glb m A) : FnM m (tab A) 4 A.f_last_drops 1 g_last_drops := kr_last_drops G
set_option maxHeartbeats 4000000 in
noncomputable def r_check_colours : { fb : Slots → M Fl // ∀ {m : Mo} {A : Ad} (_ : Glb m A), SSs m (tab A) 0 true true (defScope s_check_colours) ["colours", "is_good", "letter"] (ow0 ["colours", "is_good", "letter"]) (defBody s_check_colours) fb } := ⟨_, fun {m A} G =>
  (ss_cons (s_set 1 (e_and (e_blt n_isi G.n_isinstance (a_cons (e_var 0) (a_cons (e_ty (id := "str") G.n_str (by decide +kernel)) a_nil)) (by decide +kernel)) (e_and (e_cmp c_ne (e_var 0) e_str) (e_one (e_blt (n_all rfl) G.n_all (a_cons (e_lc [("letter", 2)] rfl (it_val (e_var 0)) (by decide +kernel) (tg_one 2) ts_nil (e_cmp c_in (e_var 2) (e_gstr G.c_LETTERS))) a_nil) (by decide +kernel))))))
    (ss_one (s_if (t_w (w_or (t_not (t_val (e_var 1))) (w_or1 (t_cmp c_ne (e_lensetT rfl G.n_len G.n_set (e_var 0)) (e_blt n_len G.n_len (a_cons (e_var 0) a_nil) PySem.boot_len)))))
      (ss_one s_never)
      ss_nil)))⟩
noncomputable def g_check_colours : List W → M W := bodyM 3 1 r_check_colours.1
theorem kr_check_colours {m : Mo} {A : Ad} (G : Glb m A) : FnM m (tab A) 1 A.f_check_colours 1 g_check_colours := by
  obtain ⟨fd, F, b⟩ := G.F_check_colours
  exact fn_mk F ⟨rfl, rfl, rfl, by decide +kernel, rfl, by decide +kernel, by decide +kernel⟩ b (r_check_colours.2 G)
theorem k_check_colours {m : Mo} {A : Ad} (G : Glb m A) : FnM m (tab A) 1 A.f_check_colours 1 g_check_colours := kr_check_colours G
set_option maxHeartbeats 4000000 in
noncomputable def r_known_ahead : { fb : Slots → M Fl // ∀ {m : Mo} {A : Ad} (_ : Glb m A), SSs m (tab A) 3 true true (defScope s_known_ahead) ["bath", "cell", "colours", "found"] (ow0 ["bath", "cell", "colours", "found"]) (defBody s_known_ahead) fb } := ⟨_, fun {m A} G =>
  (ss_cons (s_expr (e_call rfl ((k_check_cell G).mono (by decide)) G.g_check_cell (a_cons (e_var 0) (a_cons (e_var 1) a_nil))))
    (ss_cons (s_expr (e_call rfl ((k_check_colours G).mono (by decide)) G.g_check_colours (a_cons (e_var 2) a_nil)))
    (ss_cons (s_set 3 (e_call rfl ((k_ahead_of G).mono (by decide)) G.g_ahead_of (a_cons (e_var 0) (a_cons (e_var 1) a_nil))))
    (ss_cons (s_if (t_cmp c_is (e_var 3) e_non)
      (ss_one s_never)
      ss_nil)
    (ss_one (s_ret (e_var 3)))))))⟩
noncomputable def g_known_ahead : List W → M W := bodyM 4 3 r_known_ahead.1
theorem kr_known_ahead {m : Mo} {A : Ad} (G : Glb m A) : FnM m (tab A) 4 A.f_known_ahead 3 g_known_ahead := by
  obtain ⟨fd, F, b⟩ := G.F_known_ahead
  exact fn_mk F ⟨rfl, rfl, rfl, by decide +kernel, rfl, by decide +kernel, by decide +kernel⟩ b (r_known_ahead.2 G)
theorem k_known_ahead {m : Mo} {A : Ad} (G : Glb m A) : FnM m (tab A) 4 A.f_known_ahead 3 g_known_ahead := kr_known_ahead G
set_option maxHeartbeats 4000000 in
noncomputable def r_fits : { fb : Slots → M Fl // ∀ {m : Mo} {A : Ad} (_ : Glb m A), SSs m (tab A) 0 true true (defScope s_fits) ["found", "colours", "sign"] (ow0 ["found", "colours", "sign"]) (defBody s_fits) fb } := ⟨_, fun {m A} G =>
  (ss_one (s_ret (e_blt (n_all rfl) G.n_all (a_cons (e_lc [("sign", 2)] rfl (it_val (e_var 0)) (by decide +kernel) (tg_one 2) ts_nil (e_or (e_cmp c_is (e_var 2) e_non) (e_or (e_cmp c_eq (e_var 2) (e_gstr G.c_NOTHING)) (e_one (e_cmp c_in (e_var 2) (e_var 1)))))) a_nil) (by decide +kernel))))⟩
noncomputable def g_fits : List W → M W := bodyM 3 2 r_fits.1
theorem kr_fits {m : Mo} {A : Ad} (G : Glb m A) : FnM m (tab A) 1 A.f_fits 2 g_fits := by
  obtain ⟨fd, F, b⟩ := G.F_fits
  exact fn_mk F ⟨rfl, rfl, rfl, by decide +kernel, rfl, by decide +kernel, by decide +kernel⟩ b (r_fits.2 G)
theorem k_fits {m : Mo} {A : Ad} (G : Glb m A) : FnM m (tab A) 1 A.f_fits 2 g_fits := kr_fits G
set_option maxHeartbeats 4000000 in
noncomputable def r_ahead_count : { fb : Slots → M Fl // ∀ {m : Mo} {A : Ad} (_ : Glb m A), SSs m (tab A) 4 true true (defScope s_ahead_count) ["bath", "cell", "colours", "known", "found", "sign"] (ow0 ["bath", "cell", "colours", "known", "found", "sign"]) (defBody s_ahead_count) fb } := ⟨_, fun {m A} G =>
  (ss_cons (s_set 3 (e_call rfl ((k_known_ahead G).mono (by decide)) G.g_known_ahead (a_cons (e_var 0) (a_cons (e_var 1) (a_cons (e_var 2) a_nil)))))
    (ss_cons (s_set 4 (e_bty n_int G.n_int (a_cons (e_call rfl ((k_fits G).mono (by decide)) G.g_fits (a_cons (e_var 3) (a_cons (e_var 2) a_nil))) a_nil) (by decide +kernel)))
    (ss_cons (s_for rfl (it_val (e_var 3)) (g_name 5)
      (ss_one (s_aug 4 (e_if (t_cmp c_is (e_var 5) e_non) (e_bin o_add (e_blt n_len G.n_len (a_cons (e_var 2) a_nil) PySem.boot_len) e_int) e_int) i_mul)))
    (ss_one (s_ret (e_var 4))))))⟩
noncomputable def g_ahead_count : List W → M W := bodyM 6 3 r_ahead_count.1
theorem kr_ahead_count {m : Mo} {A : Ad} (G : Glb m A) : FnM m (tab A) 5 A.f_ahead_count 3 g_ahead_count := by
  obtain ⟨fd, F, b⟩ := G.F_ahead_count
  exact fn_mk F ⟨rfl, rfl, rfl, by decide +kernel, rfl, by decide +kernel, by decide +kernel⟩ b (r_ahead_count.2 G)
theorem k_ahead_count {m : Mo} {A : Ad} (G : Glb m A) : FnM m (tab A) 5 A.f_ahead_count 3 g_ahead_count := kr_ahead_count G
set_option maxHeartbeats 4000000 in
noncomputable def r_first_ahead : { fb : Slots → M Fl // ∀ {m : Mo} {A : Ad} (_ : Glb m A), SSs m (tab A) 4 true true (defScope s_first_ahead) ["bath", "cell", "colours", "found", "sign"] (ow0 ["bath", "cell", "colours", "found", "sign"]) (defBody s_first_ahead) fb } := ⟨_, fun {m A} G =>
  (ss_cons (s_set 3 (e_call rfl ((k_known_ahead G).mono (by decide)) G.g_known_ahead (a_cons (e_var 0) (a_cons (e_var 1) (a_cons (e_var 2) a_nil)))))
    (ss_one (s_ret (e_if (t_val (e_call rfl ((k_fits G).mono (by decide)) G.g_fits (a_cons (e_var 3) (a_cons (e_var 2) a_nil)))) (e_bm PySem.F.plainAttrs_str PySem.F.slot_str_join PySem.F.type_str_join m_join e_str (a_cons (e_lc [("sign", 4)] rfl (it_val (e_var 3)) (by decide +kernel) (tg_one 4) ts_nil (e_if (t_cmp c_is (e_var 4) e_non) (e_gstr G.c_NOTHING) (e_var 4))) a_nil)) e_non))))⟩
noncomputable def g_first_ahead : List W → M W := bodyM 5 3 r_first_ahead.1
theorem kr_first_ahead {m : Mo} {A : Ad} (G : Glb m A) : FnM m (tab A) 5 A.f_first_ahead 3 g_first_ahead := by
  obtain ⟨fd, F, b⟩ := G.F_first_ahead
  exact fn_mk F ⟨rfl, rfl, rfl, by decide +kernel, rfl, by decide +kernel, by decide +kernel⟩ b (r_first_ahead.2 G)
theorem k_first_ahead {m : Mo} {A : Ad} (G : Glb m A) : FnM m (tab A) 5 A.f_first_ahead 3 g_first_ahead := kr_first_ahead G
set_option maxHeartbeats 4000000 in
noncomputable def r_RoundsD_initD : { fb : Slots → M Fl // ∀ {m : Mo} {A : Ad} (_ : Glb m A), SSs m (tab A) 5 true true (defScope s_RoundsD_initD) ["self", "bath", "recipe", "cells"] (ow0 ["self", "bath", "recipe", "cells"]) (defBody s_RoundsD_initD) fb } := ⟨_, fun {m A} G =>
  (ss_cons (s_expr (e_call rfl ((k_check_recipe G).mono (by decide)) G.g_check_recipe (a_cons (e_propS rfl G.p_Bath_width (k_Bath_width G) calm_Bath_width (e_var 1)) (a_cons (e_propS rfl G.p_Bath_height (k_Bath_height G) calm_Bath_height (e_var 1)) (a_cons (e_var 2) a_nil)))))
    (ss_cons (s_fld G.f_Rounds_rows (e_var 0) (e_lst a_nil))
    (ss_cons (s_set 3 (e_propS rfl G.p_Bath_cells (k_Bath_cells G) calm_Bath_cells (e_var 1)))
    (ss_cons (s_while 1000000 (t_cmp c_notin (e_var 3) (e_fld G.f_Rounds_rows (e_var 0)))
      (ss_cons (s_expr (e_bm PySem.F.plainAttrs_list PySem.F.slot_list_append PySem.F.type_list_append m_append (e_fld G.f_Rounds_rows (e_var 0)) (a_cons (e_var 3) a_nil)))
    (ss_one (s_set 3 (e_ix (e_call rfl ((k_all_steps G).mono (by decide)) G.g_all_steps (a_cons (e_propS rfl G.p_Bath_width (k_Bath_width G) calm_Bath_width (e_var 1)) (a_cons (e_propS rfl G.p_Bath_height (k_Bath_height G) calm_Bath_height (e_var 1)) (a_cons (e_var 3) (a_cons (e_var 2) a_nil))))) (e_un o_neg e_int))))))
    (ss_one (s_fld G.f_Rounds_begin (e_var 0) (e_bm PySem.F.plainAttrs_list PySem.F.slot_list_index PySem.F.type_list_index m_lindex (e_fld G.f_Rounds_rows (e_var 0)) (a_cons (e_var 3) a_nil))))))))⟩
noncomputable def g_RoundsD_initD : List W → M W := bodyM 4 3 r_RoundsD_initD.1
theorem kr_RoundsD_initD {m : Mo} {A : Ad} (G : Glb m A) : FnM m (tab A) 6 A.f_RoundsD_initD 3 g_RoundsD_initD := by
  obtain ⟨fd, F, b⟩ := G.F_RoundsD_initD
  exact fn_mk F ⟨rfl, rfl, rfl, by decide +kernel, rfl, by decide +kernel, by decide +kernel⟩ b (r_RoundsD_initD.2 G)
theorem k_RoundsD_initD {m : Mo} {A : Ad} (G : Glb m A) : FnM m (tab A) 6 A.f_RoundsD_initD 3 g_RoundsD_initD := kr_RoundsD_initD G
set_option maxHeartbeats 4000000 in
noncomputable def r_period : { fb : Slots → M Fl // ∀ {m : Mo} {A : Ad} (_ : Glb m A), SSs m (tab A) 7 true true (defScope s_period) ["bath", "recipe", "rounds"] (ow0 ["bath", "recipe", "rounds"]) (defBody s_period) fb } := ⟨_, fun {m A} G =>
  (ss_cons (s_set 2 (e_make false 15 rfl G.mk_Rounds (k_RoundsD_initD G) G.g_Rounds (a_cons (e_var 0) (a_cons (e_var 1) a_nil))))
    (ss_one (s_ret (e_tup (a_cons (e_fld G.f_Rounds_begin (e_var 2)) (a_cons (e_bin o_sub (e_blt n_len G.n_len (a_cons (e_fld G.f_Rounds_rows (e_var 2)) a_nil) PySem.boot_len) (e_fld G.f_Rounds_begin (e_var 2))) a_nil))))))⟩
noncomputable def g_period : List W → M W := bodyM 3 2 r_period.1
theorem kr_period {m : Mo} {A : Ad} (G : Glb m A) : FnM m (tab A) 8 A.f_period 2 g_period := by
  obtain ⟨fd, F, b⟩ := G.F_period
  exact fn_mk F ⟨rfl, rfl, rfl, by decide +kernel, rfl, by decide +kernel, by decide +kernel⟩ b (r_period.2 G)
theorem k_period {m : Mo} {A : Ad} (G : Glb m A) : FnM m (tab A) 8 A.f_period 2 g_period := kr_period G
set_option maxHeartbeats 4000000 in
noncomputable def r_check_few : { fb : Slots → M Fl // ∀ {m : Mo} {A : Ad} (_ : Glb m A), SSs m (tab A) 2 true true (defScope s_check_few) ["bath"] (ow0 ["bath"]) (defBody s_check_few) fb } := ⟨_, fun {m A} G =>
  (ss_one (s_if (t_cmp c_gt (e_blt (n_lenOwn rfl G.len_Bath (k_BathD_lenD G)) G.n_len (a_cons (e_var 0) a_nil) PySem.boot_len) (e_gint G.c_FEW_CELLS_fewest))
      (ss_one s_never)
      ss_nil))⟩
noncomputable def g_check_few : List W → M W := bodyM 1 1 r_check_few.1
theorem kr_check_few {m : Mo} {A : Ad} (G : Glb m A) : FnM m (tab A) 3 A.f_check_few 1 g_check_few := by
  obtain ⟨fd, F, b⟩ := G.F_check_few
  exact fn_mk F ⟨rfl, rfl, rfl, by decide +kernel, rfl, by decide +kernel, by decide +kernel⟩ b (r_check_few.2 G)
theorem k_check_few {m : Mo} {A : Ad} (G : Glb m A) : FnM m (tab A) 3 A.f_check_few 1 g_check_few := kr_check_few G
set_option maxHeartbeats 4000000 in
noncomputable def r_check_cells : { fb : Slots → M Fl // ∀ {m : Mo} {A : Ad} (_ : Glb m A), SSs m (tab A) 2 true true (defScope s_check_cells) ["bath", "cells"] (ow0 ["bath", "cells"]) (defBody s_check_cells) fb } := ⟨_, fun {m A} G =>
  (ss_one (s_if (t_not (t_val (e_call rfl ((k_are_signs G).mono (by decide)) G.g_are_signs (a_cons (e_blt (n_lenOwn rfl G.len_Bath (k_BathD_lenD G)) G.n_len (a_cons (e_var 0) a_nil) PySem.boot_len) (a_cons (e_var 1) a_nil)))))
      (ss_one s_never)
      ss_nil))⟩
noncomputable def g_check_cells : List W → M W := bodyM 2 2 r_check_cells.1
theorem kr_check_cells {m : Mo} {A : Ad} (G : Glb m A) : FnM m (tab A) 3 A.f_check_cells 2 g_check_cells := by
  obtain ⟨fd, F, b⟩ := G.F_check_cells
  exact fn_mk F ⟨rfl, rfl, rfl, by decide +kernel, rfl, by decide +kernel, by decide +kernel⟩ b (r_check_cells.2 G)
theorem k_check_cells {m : Mo} {A : Ad} (G : Glb m A) : FnM m (tab A) 3 A.f_check_cells 2 g_check_cells := kr_check_cells G
set_option maxHeartbeats 4000000 in
noncomputable def r_all_strides : { fb : Slots → M Fl // ∀ {m : Mo} {A : Ad} (_ : Glb m A), SSs m (tab A) 0 true true (defScope s_all_strides) ["count", "length", "rows", "turn", "row", "stride"] (ow0 ["count", "length", "rows", "turn", "row", "stride"]) (defBody s_all_strides) fb } := ⟨_, fun {m A} G =>
  (ss_cons (s_set 2 (e_lst (a_cons (e_tup a_nil) a_nil)))
    (ss_cons (s_for rfl (it_rng1 G.n_range (a_cons (e_var 0) a_nil)) (g_name 3)
      (ss_one (s_setLc2 [("row", 4), ("stride", 5)] [5] 2 rfl (it_val (e_var 2)) (by decide +kernel) (tg_one 4) (it_rng1 G.n_range (a_cons (e_var 1) a_nil)) (tg_one 5) ts_nil (e_tup (a_star (e_var 4) (a_cons (e_var 5) a_nil))))))
    (ss_one (s_ret (e_var 2)))))⟩
noncomputable def g_all_strides : List W → M W := bodyM 6 2 r_all_strides.1
theorem kr_all_strides {m : Mo} {A : Ad} (G : Glb m A) : FnM m (tab A) 1 A.f_all_strides 2 g_all_strides := by
  obtain ⟨fd, F, b⟩ := G.F_all_strides
  exact fn_mk F ⟨rfl, rfl, rfl, by decide +kernel, rfl, by decide +kernel, by decide +kernel⟩ b (r_all_strides.2 G)
theorem k_all_strides {m : Mo} {A : Ad} (G : Glb m A) : FnM m (tab A) 1 A.f_all_strides 2 g_all_strides := kr_all_strides G
set_option maxHeartbeats 4000000 in
noncomputable def r_all_draws : { fb : Slots → M Fl // ∀ {m : Mo} {A : Ad} (_ : Glb m A), SSs m (tab A) 2 true true (defScope s_all_draws) ["bath", "width", "height", "deeds", "strides", "deed"] (ow0 ["bath", "width", "height", "deeds", "strides", "deed"]) (defBody s_all_draws) fb } := ⟨_, fun {m A} G =>
  (ss_cons (s_asg (e_tup (a_cons (e_propS rfl G.p_Bath_width (k_Bath_width G) calm_Bath_width (e_var 0)) (a_cons (e_propS rfl G.p_Bath_height (k_Bath_height G) calm_Bath_height (e_var 0)) a_nil))) (g_tup (n := 2) rfl (gs_cons (g_name 1) (gs_cons (g_name 2) gs_nil))) (hw := fun X g => by rw [env_sc g]; rfl))
    (ss_cons (s_setLc [("strides", 4)] 3 rfl (it_val (e_call rfl ((k_all_strides G).mono (by decide)) G.g_all_strides (a_cons (e_var 2) (a_cons (e_var 1) a_nil)))) (by decide +kernel) (tg_one 4) ts_nil (e_tup (a_cons (e_gstr G.c_RAKE) (a_cons (e_var 4) a_nil))))
    (ss_cons (s_expr (e_bm PySem.F.plainAttrs_list PySem.F.slot_list_extend PySem.F.type_list_extend m_extend (e_var 3) (a_cons (e_lc [("strides", 4)] rfl (it_val (e_call rfl ((k_all_strides G).mono (by decide)) G.g_all_strides (a_cons (e_var 1) (a_cons (e_var 2) a_nil)))) (by decide +kernel) (tg_one 4) ts_nil (e_tup (a_cons (e_gstr G.c_COMB) (a_cons (e_var 4) a_nil)))) a_nil)))
    (ss_one (s_ret (e_lc [("deed", 5)] rfl (it_val (e_var 3)) (by decide +kernel) (tg_one 5) ts_nil (e_call rfl ((k_drawn G).mono (by decide)) G.g_drawn (a_cons (e_var 1) (a_cons (e_var 2) (a_cons (e_var 5) a_nil))))))))))⟩
noncomputable def g_all_draws : List W → M W := bodyM 6 1 r_all_draws.1
theorem kr_all_draws {m : Mo} {A : Ad} (G : Glb m A) : FnM m (tab A) 3 A.f_all_draws 1 g_all_draws := by
  obtain ⟨fd, F, b⟩ := G.F_all_draws
  exact fn_mk F ⟨rfl, rfl, rfl, by decide +kernel, rfl, by decide +kernel, by decide +kernel⟩ b (r_all_draws.2 G)
theorem k_all_draws {m : Mo} {A : Ad} (G : Glb m A) : FnM m (tab A) 3 A.f_all_draws 1 g_all_draws := kr_all_draws G
set_option maxHeartbeats 4000000 in
noncomputable def r_draw_levels : { fb : Slots → M Fl // ∀ {m : Mo} {A : Ad} (_ : Glb m A), SSs m (tab A) 3 true true (defScope s_draw_levels) ["bath", "ways", "found", "level", "later", "cells", "way", "other", "cell"] (ow0 ["bath", "ways", "found", "level", "later", "cells", "way", "other", "cell"]) (defBody s_draw_levels) fb } := ⟨_, fun {m A} G =>
  (ss_cons (s_set 1 (e_call rfl ((k_all_draws G).mono (by decide)) G.g_all_draws (a_cons (e_var 0) a_nil)))
    (ss_cons (s_par2 2 3 rfl (a_cons (e_disp (sp_cons (e_propS rfl G.p_Bath_cells (k_Bath_cells G) calm_Bath_cells (e_var 0)) e_int sp_nil)) (a_cons (e_lst (a_cons (e_propS rfl G.p_Bath_cells (k_Bath_cells G) calm_Bath_cells (e_var 0)) a_nil)) a_nil)) (hw := (fun X g => by rw [env_sc g]; rfl)))
    (ss_cons (s_while 1000000 (t_cmp c_ne (e_var 3) (e_lst a_nil))
      (ss_cons (s_set 4 (e_lst a_nil))
    (ss_cons (s_for rfl (it_val (e_var 3)) (g_name 5)
      (ss_one (s_for rfl (it_val (e_var 1)) (g_name 6)
      (ss_cons (s_set 7 (e_bm PySem.F.plainAttrs_str PySem.F.slot_str_join PySem.F.type_str_join m_join e_str (a_cons (e_lc [("cell", 8)] rfl (it_val (e_var 6)) (by decide +kernel) (tg_one 8) ts_nil (e_ix (e_var 5) (e_var 8))) a_nil)))
    (ss_one (s_if (t_cmp c_notin (e_var 7) (e_var 2))
      (ss_cons (s_dput (e_var 2) (e_var 7) (e_bin o_add (e_dget (e_var 2) (e_var 5) rfl) e_int))
    (ss_one (s_expr (e_bm PySem.F.plainAttrs_list PySem.F.slot_list_append PySem.F.type_list_append m_append (e_var 4) (a_cons (e_var 7) a_nil)))))
      ss_nil))))))
    (ss_one (s_set 3 (e_var 4))))))
    (ss_one (s_ret (e_var 2))))))⟩
noncomputable def g_draw_levels : List W → M W := bodyM 9 1 r_draw_levels.1
theorem kr_draw_levels {m : Mo} {A : Ad} (G : Glb m A) : FnM m (tab A) 4 A.f_draw_levels 1 g_draw_levels := by
  obtain ⟨fd, F, b⟩ := G.F_draw_levels
  exact fn_mk F ⟨rfl, rfl, rfl, by decide +kernel, rfl, by decide +kernel, by decide +kernel⟩ b (r_draw_levels.2 G)
theorem k_draw_levels {m : Mo} {A : Ad} (G : Glb m A) : FnM m (tab A) 4 A.f_draw_levels 1 g_draw_levels := kr_draw_levels G
set_option maxHeartbeats 4000000 in
noncomputable def r_draw_count : { fb : Slots → M Fl // ∀ {m : Mo} {A : Ad} (_ : Glb m A), SSs m (tab A) 4 true true (defScope s_draw_count) ["bath"] (ow0 ["bath"]) (defBody s_draw_count) fb } := ⟨_, fun {m A} G =>
  (ss_cons (s_expr (e_call rfl ((k_check_few G).mono (by decide)) G.g_check_few (a_cons (e_var 0) a_nil)))
    (ss_one (s_ret (e_blt n_lenD G.n_len (a_cons (e_call rfl ((k_draw_levels G).mono (by decide)) G.g_draw_levels (a_cons (e_var 0) a_nil)) a_nil) PySem.boot_len))))⟩
noncomputable def g_draw_count : List W → M W := bodyM 1 1 r_draw_count.1
theorem kr_draw_count {m : Mo} {A : Ad} (G : Glb m A) : FnM m (tab A) 5 A.f_draw_count 1 g_draw_count := by
  obtain ⟨fd, F, b⟩ := G.F_draw_count
  exact fn_mk F ⟨rfl, rfl, rfl, by decide +kernel, rfl, by decide +kernel, by decide +kernel⟩ b (r_draw_count.2 G)
theorem k_draw_count {m : Mo} {A : Ad} (G : Glb m A) : FnM m (tab A) 5 A.f_draw_count 1 g_draw_count := kr_draw_count G
set_option maxHeartbeats 4000000 in
noncomputable def r_fewest_draws : { fb : Slots → M Fl // ∀ {m : Mo} {A : Ad} (_ : Glb m A), SSs m (tab A) 4 true true (defScope s_fewest_draws) ["bath", "cells"] (ow0 ["bath", "cells"]) (defBody s_fewest_draws) fb } := ⟨_, fun {m A} G =>
  (ss_cons (s_expr (e_call rfl ((k_check_cells G).mono (by decide)) G.g_check_cells (a_cons (e_var 0) (a_cons (e_var 1) a_nil))))
    (ss_cons (s_expr (e_call rfl ((k_check_few G).mono (by decide)) G.g_check_few (a_cons (e_var 0) a_nil)))
    (ss_one (s_ret (e_dget2 (e_call rfl ((k_draw_levels G).mono (by decide)) G.g_draw_levels (a_cons (e_var 0) a_nil)) (e_var 1) e_non)))))⟩
noncomputable def g_fewest_draws : List W → M W := bodyM 2 2 r_fewest_draws.1
theorem kr_fewest_draws {m : Mo} {A : Ad} (G : Glb m A) : FnM m (tab A) 5 A.f_fewest_draws 2 g_fewest_draws := by
  obtain ⟨fd, F, b⟩ := G.F_fewest_draws
  exact fn_mk F ⟨rfl, rfl, rfl, by decide +kernel, rfl, by decide +kernel, by decide +kernel⟩ b (r_fewest_draws.2 G)
theorem k_fewest_draws {m : Mo} {A : Ad} (G : Glb m A) : FnM m (tab A) 5 A.f_fewest_draws 2 g_fewest_draws := kr_fewest_draws G
set_option maxHeartbeats 4000000 in
noncomputable def r_check_drops : { fb : Slots → M Fl // ∀ {m : Mo} {A : Ad} (_ : Glb m A), SSs m (tab A) 3 true true (defScope s_check_drops) ["bath", "cells", "most"] (ow0 ["bath", "cells", "most"]) (defBody s_check_drops) fb } := ⟨_, fun {m A} G =>
  (ss_cons (s_expr (e_call rfl ((k_check_cells G).mono (by decide)) G.g_check_cells (a_cons (e_var 0) (a_cons (e_var 1) a_nil))))
    (ss_cons (s_if (t_not (t_val (e_call rfl ((k_is_number G).mono (by decide)) G.g_is_number (a_cons (e_var 2) (a_cons e_int (a_cons (e_gint G.c_MAX_DROPS) a_nil))))))
      (ss_one s_never)
      ss_nil)
    (ss_one (s_expr (e_call rfl ((k_check_few G).mono (by decide)) G.g_check_few (a_cons (e_var 0) a_nil))))))⟩
noncomputable def g_check_drops : List W → M W := bodyM 3 3 r_check_drops.1
theorem kr_check_drops {m : Mo} {A : Ad} (G : Glb m A) : FnM m (tab A) 4 A.f_check_drops 3 g_check_drops := by
  obtain ⟨fd, F, b⟩ := G.F_check_drops
  exact fn_mk F ⟨rfl, rfl, rfl, by decide +kernel, rfl, by decide +kernel, by decide +kernel⟩ b (r_check_drops.2 G)
theorem k_check_drops {m : Mo} {A : Ad} (G : Glb m A) : FnM m (tab A) 4 A.f_check_drops 3 g_check_drops := kr_check_drops G
set_option maxHeartbeats 4000000 in
noncomputable def r_dropped : { fb : Slots → M Fl // ∀ {m : Mo} {A : Ad} (_ : Glb m A), SSs m (tab A) 2 true true (defScope s_dropped) ["bath", "cells", "cell", "colour", "other"] (ow0 ["bath", "cells", "cell", "colour", "other"]) (defBody s_dropped) fb } := ⟨_, fun {m A} G =>
  (ss_one (s_ret (e_bm PySem.F.plainAttrs_str PySem.F.slot_str_join PySem.F.type_str_join m_join e_str (a_cons (e_lc [("other", 4)] rfl (it_val (e_call rfl ((k_pushed G).mono (by decide)) G.g_pushed (a_cons (e_propS rfl G.p_Bath_width (k_Bath_width G) calm_Bath_width (e_var 0)) (a_cons (e_propS rfl G.p_Bath_height (k_Bath_height G) calm_Bath_height (e_var 0)) (a_cons (e_var 2) a_nil))))) (by decide +kernel) (tg_one 4) ts_nil (e_if (t_cmp c_is (e_var 4) e_non) (e_var 3) (e_ix (e_var 1) (e_var 4)))) a_nil))))⟩
noncomputable def g_dropped : List W → M W := bodyM 5 4 r_dropped.1
theorem kr_dropped {m : Mo} {A : Ad} (G : Glb m A) : FnM m (tab A) 3 A.f_dropped 4 g_dropped := by
  obtain ⟨fd, F, b⟩ := G.F_dropped
  exact fn_mk F ⟨rfl, rfl, rfl, by decide +kernel, rfl, by decide +kernel, by decide +kernel⟩ b (r_dropped.2 G)
theorem k_dropped {m : Mo} {A : Ad} (G : Glb m A) : FnM m (tab A) 3 A.f_dropped 4 g_dropped := kr_dropped G
noncomputable def gz_first_way : List W → M W := bodyM 9 4 fun _ _ => .bad
theorem kz_first_way {m : Mo} {A : Ad} (G : Glb m A) : FnM m (tab A) 1 A.f_first_way 4 gz_first_way := by
  obtain ⟨fd, F, b⟩ := G.F_first_way
  exact fn_mk (N := ["bath", "cells", "goal", "count", "letters", "letter", "cell", "colour", "rest"]) F ⟨rfl, rfl, rfl, by decide +kernel, rfl, by decide +kernel, by decide +kernel⟩ b ss_bad
set_option maxHeartbeats 4000000 in
noncomputable def r_first_way_0 : { fb : Slots → M Fl // ∀ {m : Mo} {A : Ad} (_ : Glb m A), SSs m (tab A) 3 true true (defScope s_first_way) ["bath", "cells", "goal", "count", "letters", "letter", "cell", "colour", "rest"] (ow0 ["bath", "cells", "goal", "count", "letters", "letter", "cell", "colour", "rest"]) (defBody s_first_way) fb } := ⟨_, fun {m A} G =>
  (ss_cons (s_if (t_cmp c_eq (e_var 3) e_int)
      (ss_one (s_ret (e_if (t_cmp c_eq (e_var 1) (e_var 2)) (e_tup a_nil) e_non)))
      ss_nil)
    (ss_cons (s_setLc [("letter", 5)] 4 rfl (it_val (e_gstr G.c_LETTERS)) (by decide +kernel) (tg_one 5) (ts_one (t_w (w_or (t_cmp c_in (e_var 5) (e_var 2)) (w_or1 (t_cmp c_eq (e_var 5) (e_ix (e_gstr G.c_LETTERS) e_int)))))) (e_var 5))
    (ss_cons (s_for rfl (it_rng1 G.n_range (a_cons (e_blt (n_lenOwn rfl G.len_Bath (k_BathD_lenD G)) G.n_len (a_cons (e_var 0) a_nil) PySem.boot_len) a_nil)) (g_name 6)
      (ss_one (s_for rfl (it_val (e_var 4)) (g_name 7)
      (ss_cons (s_set 8 (e_call rfl ((kz_first_way G).mono (by decide)) G.g_first_way (a_cons (e_var 0) (a_cons (e_call rfl ((k_dropped G).mono (by decide)) G.g_dropped (a_cons (e_var 0) (a_cons (e_var 1) (a_cons (e_var 6) (a_cons (e_var 7) a_nil))))) (a_cons (e_var 2) (a_cons (e_bin o_sub (e_var 3) e_int) a_nil))))))
    (ss_one (s_if (t_cmp c_isnot (e_var 8) e_non)
      (ss_one (s_ret (e_tup (a_cons (e_tup (a_cons (e_var 6) (a_cons (e_var 7) a_nil))) (a_star (e_var 8) a_nil)))))
      ss_nil))))))
    (ss_one (s_ret e_non)))))⟩
noncomputable def g_first_way_0 : List W → M W := bodyM 9 4 r_first_way_0.1
theorem k_first_way_0 {m : Mo} {A : Ad} (G : Glb m A) : FnM m (tab A) 4 A.f_first_way 4 g_first_way_0 := by
  obtain ⟨fd, F, b⟩ := G.F_first_way
  exact fn_mk F ⟨rfl, rfl, rfl, by decide +kernel, rfl, by decide +kernel, by decide +kernel⟩ b (r_first_way_0.2 G)
set_option maxHeartbeats 4000000 in
noncomputable def r_first_way_1 : { fb : Slots → M Fl // ∀ {m : Mo} {A : Ad} (_ : Glb m A), SSs m (tab A) 4 true true (defScope s_first_way) ["bath", "cells", "goal", "count", "letters", "letter", "cell", "colour", "rest"] (ow0 ["bath", "cells", "goal", "count", "letters", "letter", "cell", "colour", "rest"]) (defBody s_first_way) fb } := ⟨_, fun {m A} G =>
  (ss_cons (s_if (t_cmp c_eq (e_var 3) e_int)
      (ss_one (s_ret (e_if (t_cmp c_eq (e_var 1) (e_var 2)) (e_tup a_nil) e_non)))
      ss_nil)
    (ss_cons (s_setLc [("letter", 5)] 4 rfl (it_val (e_gstr G.c_LETTERS)) (by decide +kernel) (tg_one 5) (ts_one (t_w (w_or (t_cmp c_in (e_var 5) (e_var 2)) (w_or1 (t_cmp c_eq (e_var 5) (e_ix (e_gstr G.c_LETTERS) e_int)))))) (e_var 5))
    (ss_cons (s_for rfl (it_rng1 G.n_range (a_cons (e_blt (n_lenOwn rfl G.len_Bath (k_BathD_lenD G)) G.n_len (a_cons (e_var 0) a_nil) PySem.boot_len) a_nil)) (g_name 6)
      (ss_one (s_for rfl (it_val (e_var 4)) (g_name 7)
      (ss_cons (s_set 8 (e_call rfl ((k_first_way_0 G).mono (by decide)) G.g_first_way (a_cons (e_var 0) (a_cons (e_call rfl ((k_dropped G).mono (by decide)) G.g_dropped (a_cons (e_var 0) (a_cons (e_var 1) (a_cons (e_var 6) (a_cons (e_var 7) a_nil))))) (a_cons (e_var 2) (a_cons (e_bin o_sub (e_var 3) e_int) a_nil))))))
    (ss_one (s_if (t_cmp c_isnot (e_var 8) e_non)
      (ss_one (s_ret (e_tup (a_cons (e_tup (a_cons (e_var 6) (a_cons (e_var 7) a_nil))) (a_star (e_var 8) a_nil)))))
      ss_nil))))))
    (ss_one (s_ret e_non)))))⟩
noncomputable def g_first_way_1 : List W → M W := bodyM 9 4 r_first_way_1.1
theorem k_first_way_1 {m : Mo} {A : Ad} (G : Glb m A) : FnM m (tab A) 5 A.f_first_way 4 g_first_way_1 := by
  obtain ⟨fd, F, b⟩ := G.F_first_way
  exact fn_mk F ⟨rfl, rfl, rfl, by decide +kernel, rfl, by decide +kernel, by decide +kernel⟩ b (r_first_way_1.2 G)
set_option maxHeartbeats 4000000 in
noncomputable def r_first_way_2 : { fb : Slots → M Fl // ∀ {m : Mo} {A : Ad} (_ : Glb m A), SSs m (tab A) 5 true true (defScope s_first_way) ["bath", "cells", "goal", "count", "letters", "letter", "cell", "colour", "rest"] (ow0 ["bath", "cells", "goal", "count", "letters", "letter", "cell", "colour", "rest"]) (defBody s_first_way) fb } := ⟨_, fun {m A} G =>
  (ss_cons (s_if (t_cmp c_eq (e_var 3) e_int)
      (ss_one (s_ret (e_if (t_cmp c_eq (e_var 1) (e_var 2)) (e_tup a_nil) e_non)))
      ss_nil)
    (ss_cons (s_setLc [("letter", 5)] 4 rfl (it_val (e_gstr G.c_LETTERS)) (by decide +kernel) (tg_one 5) (ts_one (t_w (w_or (t_cmp c_in (e_var 5) (e_var 2)) (w_or1 (t_cmp c_eq (e_var 5) (e_ix (e_gstr G.c_LETTERS) e_int)))))) (e_var 5))
    (ss_cons (s_for rfl (it_rng1 G.n_range (a_cons (e_blt (n_lenOwn rfl G.len_Bath (k_BathD_lenD G)) G.n_len (a_cons (e_var 0) a_nil) PySem.boot_len) a_nil)) (g_name 6)
      (ss_one (s_for rfl (it_val (e_var 4)) (g_name 7)
      (ss_cons (s_set 8 (e_call rfl ((k_first_way_1 G).mono (by decide)) G.g_first_way (a_cons (e_var 0) (a_cons (e_call rfl ((k_dropped G).mono (by decide)) G.g_dropped (a_cons (e_var 0) (a_cons (e_var 1) (a_cons (e_var 6) (a_cons (e_var 7) a_nil))))) (a_cons (e_var 2) (a_cons (e_bin o_sub (e_var 3) e_int) a_nil))))))
    (ss_one (s_if (t_cmp c_isnot (e_var 8) e_non)
      (ss_one (s_ret (e_tup (a_cons (e_tup (a_cons (e_var 6) (a_cons (e_var 7) a_nil))) (a_star (e_var 8) a_nil)))))
      ss_nil))))))
    (ss_one (s_ret e_non)))))⟩
noncomputable def g_first_way_2 : List W → M W := bodyM 9 4 r_first_way_2.1
theorem k_first_way_2 {m : Mo} {A : Ad} (G : Glb m A) : FnM m (tab A) 6 A.f_first_way 4 g_first_way_2 := by
  obtain ⟨fd, F, b⟩ := G.F_first_way
  exact fn_mk F ⟨rfl, rfl, rfl, by decide +kernel, rfl, by decide +kernel, by decide +kernel⟩ b (r_first_way_2.2 G)
set_option maxHeartbeats 4000000 in
noncomputable def r_first_way : { fb : Slots → M Fl // ∀ {m : Mo} {A : Ad} (_ : Glb m A), SSs m (tab A) 6 true true (defScope s_first_way) ["bath", "cells", "goal", "count", "letters", "letter", "cell", "colour", "rest"] (ow0 ["bath", "cells", "goal", "count", "letters", "letter", "cell", "colour", "rest"]) (defBody s_first_way) fb } := ⟨_, fun {m A} G =>
  (ss_cons (s_if (t_cmp c_eq (e_var 3) e_int)
      (ss_one (s_ret (e_if (t_cmp c_eq (e_var 1) (e_var 2)) (e_tup a_nil) e_non)))
      ss_nil)
    (ss_cons (s_setLc [("letter", 5)] 4 rfl (it_val (e_gstr G.c_LETTERS)) (by decide +kernel) (tg_one 5) (ts_one (t_w (w_or (t_cmp c_in (e_var 5) (e_var 2)) (w_or1 (t_cmp c_eq (e_var 5) (e_ix (e_gstr G.c_LETTERS) e_int)))))) (e_var 5))
    (ss_cons (s_for rfl (it_rng1 G.n_range (a_cons (e_blt (n_lenOwn rfl G.len_Bath (k_BathD_lenD G)) G.n_len (a_cons (e_var 0) a_nil) PySem.boot_len) a_nil)) (g_name 6)
      (ss_one (s_for rfl (it_val (e_var 4)) (g_name 7)
      (ss_cons (s_set 8 (e_call rfl ((k_first_way_2 G).mono (by decide)) G.g_first_way (a_cons (e_var 0) (a_cons (e_call rfl ((k_dropped G).mono (by decide)) G.g_dropped (a_cons (e_var 0) (a_cons (e_var 1) (a_cons (e_var 6) (a_cons (e_var 7) a_nil))))) (a_cons (e_var 2) (a_cons (e_bin o_sub (e_var 3) e_int) a_nil))))))
    (ss_one (s_if (t_cmp c_isnot (e_var 8) e_non)
      (ss_one (s_ret (e_tup (a_cons (e_tup (a_cons (e_var 6) (a_cons (e_var 7) a_nil))) (a_star (e_var 8) a_nil)))))
      ss_nil))))))
    (ss_one (s_ret e_non)))))⟩
noncomputable def g_first_way : List W → M W := bodyM 9 4 r_first_way.1
theorem kr_first_way {m : Mo} {A : Ad} (G : Glb m A) : FnM m (tab A) 7 A.f_first_way 4 g_first_way := by
  obtain ⟨fd, F, b⟩ := G.F_first_way
  exact fn_mk F ⟨rfl, rfl, rfl, by decide +kernel, rfl, by decide +kernel, by decide +kernel⟩ b (r_first_way.2 G)
theorem k_first_way {m : Mo} {A : Ad} (G : Glb m A) : FnM m (tab A) 7 A.f_first_way 4 g_first_way := kr_first_way G
set_option maxHeartbeats 4000000 in
noncomputable def r_first_drops : { fb : Slots → M Fl // ∀ {m : Mo} {A : Ad} (_ : Glb m A), SSs m (tab A) 7 true true (defScope s_first_drops) ["bath", "cells", "most", "count", "found"] (ow0 ["bath", "cells", "most", "count", "found"]) (defBody s_first_drops) fb } := ⟨_, fun {m A} G =>
  (ss_cons (s_expr (e_call rfl ((k_check_drops G).mono (by decide)) G.g_check_drops (a_cons (e_var 0) (a_cons (e_var 1) (a_cons (e_var 2) a_nil)))))
    (ss_cons (s_for rfl (it_rng1 G.n_range (a_cons (e_bin o_add (e_var 2) e_int) a_nil)) (g_name 3)
      (ss_cons (s_set 4 (e_call rfl ((k_first_way G).mono (by decide)) G.g_first_way (a_cons (e_var 0) (a_cons (e_propS rfl G.p_Bath_cells (k_Bath_cells G) calm_Bath_cells (e_var 0)) (a_cons (e_var 1) (a_cons (e_var 3) a_nil))))))
    (ss_one (s_if (t_cmp c_isnot (e_var 4) e_non)
      (ss_one (s_ret (e_var 4)))
      ss_nil))))
    (ss_one (s_ret e_non))))⟩
noncomputable def g_first_drops : List W → M W := bodyM 5 3 r_first_drops.1
theorem kr_first_drops {m : Mo} {A : Ad} (G : Glb m A) : FnM m (tab A) 8 A.f_first_drops 3 g_first_drops := by
  obtain ⟨fd, F, b⟩ := G.F_first_drops
  exact fn_mk F ⟨rfl, rfl, rfl, by decide +kernel, rfl, by decide +kernel, by decide +kernel⟩ b (r_first_drops.2 G)
theorem k_first_drops {m : Mo} {A : Ad} (G : Glb m A) : FnM m (tab A) 8 A.f_first_drops 3 g_first_drops := kr_first_drops G
set_option maxHeartbeats 4000000 in
noncomputable def r_fewest_drops : { fb : Slots → M Fl // ∀ {m : Mo} {A : Ad} (_ : Glb m A), SSs m (tab A) 8 true true (defScope s_fewest_drops) ["bath", "cells", "most", "found"] (ow0 ["bath", "cells", "most", "found"]) (defBody s_fewest_drops) fb } := ⟨_, fun {m A} G =>
  (ss_cons (s_set 3 (e_call rfl ((k_first_drops G).mono (by decide)) G.g_first_drops (a_cons (e_var 0) (a_cons (e_var 1) (a_cons (e_var 2) a_nil)))))
    (ss_one (s_ret (e_if (t_cmp c_is (e_var 3) e_non) e_non (e_blt n_len G.n_len (a_cons (e_var 3) a_nil) PySem.boot_len)))))⟩
noncomputable def g_fewest_drops : List W → M W := bodyM 4 3 r_fewest_drops.1
theorem kr_fewest_drops {m : Mo} {A : Ad} (G : Glb m A) : FnM m (tab A) 9 A.f_fewest_drops 3 g_fewest_drops := by
  obtain ⟨fd, F, b⟩ := G.F_fewest_drops
  exact fn_mk F ⟨rfl, rfl, rfl, by decide +kernel, rfl, by decide +kernel, by decide +kernel⟩ b (r_fewest_drops.2 G)
theorem k_fewest_drops {m : Mo} {A : Ad} (G : Glb m A) : FnM m (tab A) 9 A.f_fewest_drops 3 g_fewest_drops := kr_fewest_drops G
set_option maxHeartbeats 4000000 in
noncomputable def r_choices : { fb : Slots → M Fl // ∀ {m : Mo} {A : Ad} (_ : Glb m A), SSs m (tab A) 0 true true (defScope s_choices) ["size", "count", "rows", "turn", "row", "cell"] (ow0 ["size", "count", "rows", "turn", "row", "cell"]) (defBody s_choices) fb } := ⟨_, fun {m A} G =>
  (ss_cons (s_set 2 (e_lst (a_cons (e_tup a_nil) a_nil)))
    (ss_cons (s_for rfl (it_rng1 G.n_range (a_cons (e_var 1) a_nil)) (g_name 3)
      (ss_one (s_setLc2 [("row", 4), ("cell", 5)] [5] 2 rfl (it_val (e_var 2)) (by decide +kernel) (tg_one 4) (it_rng1 G.n_range (a_cons (e_var 0) a_nil)) (tg_one 5) ts_nil (e_tup (a_star (e_var 4) (a_cons (e_var 5) a_nil))))))
    (ss_one (s_ret (e_var 2)))))⟩
noncomputable def g_choices : List W → M W := bodyM 6 2 r_choices.1
theorem kr_choices {m : Mo} {A : Ad} (G : Glb m A) : FnM m (tab A) 1 A.f_choices 2 g_choices := by
  obtain ⟨fd, F, b⟩ := G.F_choices
  exact fn_mk F ⟨rfl, rfl, rfl, by decide +kernel, rfl, by decide +kernel, by decide +kernel⟩ b (r_choices.2 G)
theorem k_choices {m : Mo} {A : Ad} (G : Glb m A) : FnM m (tab A) 1 A.f_choices 2 g_choices := kr_choices G
set_option maxHeartbeats 4000000 in
noncomputable def r_colourings : { fb : Slots → M Fl // ∀ {m : Mo} {A : Ad} (_ : Glb m A), SSs m (tab A) 2 true true (defScope s_colourings) ["bath", "row", "marks", "number", "cell", "other", "found", "signs", "mark", "sign"] (ow0 ["bath", "row", "marks", "number", "cell", "other", "found", "signs", "mark", "sign"]) (defBody s_colourings) fb } := ⟨_, fun {m A} G =>
  (ss_cons (s_set 2 (e_bin o_mul (e_lst (a_cons e_non a_nil)) (e_blt (n_lenOwn rfl G.len_Bath (k_BathD_lenD G)) G.n_len (a_cons (e_var 0) a_nil) PySem.boot_len)))
    (ss_cons (s_for rfl (it_enumerate G.n_enumerate (a_cons (e_var 1) a_nil)) (g_tup (n := 2) rfl (gs_cons (g_name 3) (gs_cons (g_name 4) gs_nil)))
      (ss_one (s_set 2 (e_lc [("other", 5)] rfl (it_val (e_call rfl ((k_pushed G).mono (by decide)) G.g_pushed (a_cons (e_propS rfl G.p_Bath_width (k_Bath_width G) calm_Bath_width (e_var 0)) (a_cons (e_propS rfl G.p_Bath_height (k_Bath_height G) calm_Bath_height (e_var 0)) (a_cons (e_var 4) a_nil))))) (by decide +kernel) (tg_one 5) ts_nil (e_if (t_cmp c_is (e_var 5) e_non) (e_var 3) (e_ix (e_var 2) (e_var 5)))) (hs := fun X g => by rw [env_sc g]; rfl))))
    (ss_cons (s_set 6 e_int)
    (ss_cons (s_for rfl (it_rng1 G.n_range (a_cons (e_blt n_len G.n_len (a_cons (e_var 1) a_nil) PySem.boot_len) a_nil)) (g_name 3)
      (ss_cons (s_set 7 (e_sortsetT rfl G.n_sorted G.n_set (e_lc [("mark", 8), ("sign", 9)] rfl (it_zip G.n_zip (a_cons (e_var 2) (a_cons (e_propS rfl G.p_Bath_cells (k_Bath_cells G) calm_Bath_cells (e_var 0)) a_nil))) (by decide +kernel) (tg_many ["mark", "sign"] [⟨292, 37, 292, 41⟩, ⟨292, 43, 292, 47⟩] [8, 9] rfl (hn := names_at (by decide +kernel))) (ts_one (t_cmp c_eq (e_var 8) (e_var 3))) (e_var 9))))
    (ss_cons (s_if (t_w (w_or (t_cmp c_gt (e_blt n_len G.n_len (a_cons (e_var 7) a_nil) PySem.boot_len) e_int) (w_or1 (t_cmp c_eq (e_var 7) (e_lst (a_cons (e_gstr G.c_NOTHING) a_nil))))))
      (ss_one (s_ret e_int))
      ss_nil)
    (ss_one (s_aug 6 (e_if (t_cmp c_eq (e_var 7) (e_lst a_nil)) (e_blt n_len G.n_len (a_cons (e_gstr G.c_LETTERS) a_nil) PySem.boot_len) e_int) i_mul)))))
    (ss_one (s_ret (e_if (t_val (e_blt (n_all rfl) G.n_all (a_cons (e_lc [("mark", 8), ("sign", 9)] rfl (it_zip G.n_zip (a_cons (e_var 2) (a_cons (e_propS rfl G.p_Bath_cells (k_Bath_cells G) calm_Bath_cells (e_var 0)) a_nil))) (by decide +kernel) (tg_many ["mark", "sign"] [⟨296, 45, 296, 49⟩, ⟨296, 51, 296, 55⟩] [8, 9] rfl (hn := names_at (by decide +kernel))) (ts_one (t_cmp c_is (e_var 8) e_non)) (e_cmp c_eq (e_var 9) (e_gstr G.c_NOTHING))) a_nil) (by decide +kernel))) (e_var 6) e_int)))))))⟩
noncomputable def g_colourings : List W → M W := bodyM 10 2 r_colourings.1
theorem kr_colourings {m : Mo} {A : Ad} (G : Glb m A) : FnM m (tab A) 3 A.f_colourings 2 g_colourings := by
  obtain ⟨fd, F, b⟩ := G.F_colourings
  exact fn_mk F ⟨rfl, rfl, rfl, by decide +kernel, rfl, by decide +kernel, by decide +kernel⟩ b (r_colourings.2 G)
theorem k_colourings {m : Mo} {A : Ad} (G : Glb m A) : FnM m (tab A) 3 A.f_colourings 2 g_colourings := kr_colourings G
set_option maxHeartbeats 4000000 in
noncomputable def r_recipes_of_drops : { fb : Slots → M Fl // ∀ {m : Mo} {A : Ad} (_ : Glb m A), SSs m (tab A) 3 true true (defScope s_recipes_of_drops) ["bath", "count", "row"] (ow0 ["bath", "count", "row"]) (defBody s_recipes_of_drops) fb } := ⟨_, fun {m A} G =>
  (ss_cons (s_if (t_not (t_val (e_call rfl ((k_is_number G).mono (by decide)) G.g_is_number (a_cons (e_var 1) (a_cons e_int (a_cons (e_gint G.c_MAX_DROPS) a_nil))))))
      (ss_one s_never)
      ss_nil)
    (ss_cons (s_expr (e_call rfl ((k_check_few G).mono (by decide)) G.g_check_few (a_cons (e_var 0) a_nil)))
    (ss_one (s_ret (e_blt (n_sum rfl) G.n_sum (a_cons (e_lc [("row", 2)] rfl (it_val (e_call rfl ((k_choices G).mono (by decide)) G.g_choices (a_cons (e_blt (n_lenOwn rfl G.len_Bath (k_BathD_lenD G)) G.n_len (a_cons (e_var 0) a_nil) PySem.boot_len) (a_cons (e_var 1) a_nil)))) (by decide +kernel) (tg_one 2) ts_nil (e_call rfl ((k_colourings G).mono (by decide)) G.g_colourings (a_cons (e_var 0) (a_cons (e_var 2) a_nil)))) a_nil) (by decide +kernel))))))⟩
noncomputable def g_recipes_of_drops : List W → M W := bodyM 3 2 r_recipes_of_drops.1
theorem kr_recipes_of_drops {m : Mo} {A : Ad} (G : Glb m A) : FnM m (tab A) 4 A.f_recipes_of_drops 2 g_recipes_of_drops := by
  obtain ⟨fd, F, b⟩ := G.F_recipes_of_drops
  exact fn_mk F ⟨rfl, rfl, rfl, by decide +kernel, rfl, by decide +kernel, by decide +kernel⟩ b (r_recipes_of_drops.2 G)
theorem k_recipes_of_drops {m : Mo} {A : Ad} (G : Glb m A) : FnM m (tab A) 4 A.f_recipes_of_drops 2 g_recipes_of_drops := kr_recipes_of_drops G
set_option maxHeartbeats 4000000 in
noncomputable def r_origins_of : { fb : Slots → M Fl // ∀ {m : Mo} {A : Ad} (_ : Glb m A), SSs m (tab A) 2 true true (defScope s_origins_of) ["width", "height", "recipe", "tray", "cell", "index", "deed", "row"] (ow0 ["width", "height", "recipe", "tray", "cell", "index", "deed", "row"]) (defBody s_origins_of) fb } := ⟨_, fun {m A} G =>
  (ss_cons (s_set 3 (e_make false 14 rfl G.mk_Tray (k_TrayD_initD G) G.g_Tray (a_cons (e_var 0) (a_cons (e_var 1) (a_cons (e_lc [("cell", 4)] rfl (it_rng1 G.n_range (a_cons (e_bin o_mul (e_var 0) (e_var 1)) a_nil)) (by decide +kernel) (tg_one 4) ts_nil (e_tup (a_cons (e_gstr G.c_CELL) (a_cons (e_var 4) a_nil)))) a_nil)))))
    (ss_cons (s_for rfl (it_enumerate G.n_enumerate (a_cons (e_var 2) a_nil)) (g_tup (n := 2) rfl (gs_cons (g_name 5) (gs_cons (g_name 6) gs_nil)))
      (ss_one (s_expr (e_meth (pl := _) 14 rfl (e_var 3) G.cl_Tray G.m_Tray_do (k_Tray_do G) (a_cons (e_var 6) (a_cons (e_tup (a_cons (e_if (t_cmp c_eq (e_ix (e_var 6) e_int) (e_gstr G.c_DROP)) (e_gstr G.c_DROP) (e_gstr G.c_PAPER)) (a_cons (e_var 5) a_nil))) a_nil)) (by show _ ∉ (["size", "things", "papers"] : List Str); decide +kernel)))))
    (ss_one (s_ret (e_tup (a_cons (e_bty n_tuple G.n_tuple (a_cons (e_fld G.f_Tray_things (e_var 3)) a_nil) (by decide +kernel)) (a_cons (e_lc [("row", 7)] rfl (it_val (e_fld G.f_Tray_papers (e_var 3))) (by decide +kernel) (tg_one 7) ts_nil (e_bty n_tuple G.n_tuple (a_cons (e_var 7) a_nil) (by decide +kernel))) a_nil)))))))⟩
noncomputable def g_origins_of : List W → M W := bodyM 8 3 r_origins_of.1
theorem kr_origins_of {m : Mo} {A : Ad} (G : Glb m A) : FnM m (tab A) 3 A.f_origins_of 3 g_origins_of := by
  obtain ⟨fd, F, b⟩ := G.F_origins_of
  exact fn_mk F ⟨rfl, rfl, rfl, by decide +kernel, rfl, by decide +kernel, by decide +kernel⟩ b (r_origins_of.2 G)
theorem k_origins_of {m : Mo} {A : Ad} (G : Glb m A) : FnM m (tab A) 3 A.f_origins_of 3 g_origins_of := kr_origins_of G
set_option maxHeartbeats 4000000 in
noncomputable def r_sources : { fb : Slots → M Fl // ∀ {m : Mo} {A : Ad} (_ : Glb m A), SSs m (tab A) 5 true true (defScope s_sources) ["width", "height", "recipe"] (ow0 ["width", "height", "recipe"]) (defBody s_sources) fb } := ⟨_, fun {m A} G =>
  (ss_cons (s_expr (e_call rfl ((k_check_size G).mono (by decide)) G.g_check_size (a_cons (e_var 0) (a_cons (e_var 1) a_nil))))
    (ss_cons (s_expr (e_call rfl ((k_check_recipe G).mono (by decide)) G.g_check_recipe (a_cons (e_var 0) (a_cons (e_var 1) (a_cons (e_var 2) a_nil)))))
    (ss_one (s_ret (e_call rfl ((k_origins_of G).mono (by decide)) G.g_origins_of (a_cons (e_var 0) (a_cons (e_var 1) (a_cons (e_var 2) a_nil))))))))⟩
noncomputable def g_sources : List W → M W := bodyM 3 3 r_sources.1
theorem kr_sources {m : Mo} {A : Ad} (G : Glb m A) : FnM m (tab A) 6 A.f_sources 3 g_sources := by
  obtain ⟨fd, F, b⟩ := G.F_sources
  exact fn_mk F ⟨rfl, rfl, rfl, by decide +kernel, rfl, by decide +kernel, by decide +kernel⟩ b (r_sources.2 G)
theorem k_sources {m : Mo} {A : Ad} (G : Glb m A) : FnM m (tab A) 6 A.f_sources 3 g_sources := kr_sources G
set_option maxHeartbeats 4000000 in
noncomputable def r_copies_of : { fb : Slots → M Fl // ∀ {m : Mo} {A : Ad} (_ : Glb m A), SSs m (tab A) 3 true true (defScope s_copies_of) ["width", "height", "recipe", "cells", "papers", "every", "row", "cell"] (ow0 ["width", "height", "recipe", "cells", "papers", "every", "row", "cell"]) (defBody s_copies_of) fb } := ⟨_, fun {m A} G =>
  (ss_cons (s_asg (e_call rfl ((k_origins_of G).mono (by decide)) G.g_origins_of (a_cons (e_var 0) (a_cons (e_var 1) (a_cons (e_var 2) a_nil)))) (g_tup (n := 2) rfl (gs_cons (g_name 3) (gs_cons (g_name 4) gs_nil))))
    (ss_cons (s_set 5 (e_bty (n_list rfl) G.n_list (a_cons (e_var 3) a_nil) (by decide +kernel)))
    (ss_cons (s_for rfl (it_val (e_var 4)) (g_name 6)
      (ss_one (s_expr (e_bm PySem.F.plainAttrs_list PySem.F.slot_list_extend PySem.F.type_list_extend m_extendT (e_var 5) (a_cons (e_var 6) a_nil)))))
    (ss_one (s_ret (e_dc [("cell", 7)] rfl (it_rng1 G.n_range (a_cons (e_bin o_mul (e_var 0) (e_var 1)) a_nil)) (by decide +kernel) (tg_one 7) ts_nil (e_var 7) (e_bm PySem.F.plainAttrs_list PySem.F.slot_list_count PySem.F.type_list_count (m_count rfl) (e_var 5) (a_cons (e_tup (a_cons (e_gstr G.c_CELL) (a_cons (e_var 7) a_nil))) a_nil))))))))⟩
noncomputable def g_copies_of : List W → M W := bodyM 8 3 r_copies_of.1
theorem kr_copies_of {m : Mo} {A : Ad} (G : Glb m A) : FnM m (tab A) 4 A.f_copies_of 3 g_copies_of := by
  obtain ⟨fd, F, b⟩ := G.F_copies_of
  exact fn_mk F ⟨rfl, rfl, rfl, by decide +kernel, rfl, by decide +kernel, by decide +kernel⟩ b (r_copies_of.2 G)
theorem k_copies_of {m : Mo} {A : Ad} (G : Glb m A) : FnM m (tab A) 4 A.f_copies_of 3 g_copies_of := kr_copies_of G
set_option maxHeartbeats 4000000 in
noncomputable def r_lost : { fb : Slots → M Fl // ∀ {m : Mo} {A : Ad} (_ : Glb m A), SSs m (tab A) 5 true true (defScope s_lost) ["width", "height", "recipe", "cell", "count"] (ow0 ["width", "height", "recipe", "cell", "count"]) (defBody s_lost) fb } := ⟨_, fun {m A} G =>
  (ss_cons (s_expr (e_call rfl ((k_check_size G).mono (by decide)) G.g_check_size (a_cons (e_var 0) (a_cons (e_var 1) a_nil))))
    (ss_cons (s_expr (e_call rfl ((k_check_recipe G).mono (by decide)) G.g_check_recipe (a_cons (e_var 0) (a_cons (e_var 1) (a_cons (e_var 2) a_nil)))))
    (ss_one (s_ret (e_bty n_tuple G.n_tuple (a_cons (e_lc [("cell", 3), ("count", 4)] rfl (it_val (e_listItems rfl G.n_list (e_call rfl ((k_copies_of G).mono (by decide)) G.g_copies_of (a_cons (e_var 0) (a_cons (e_var 1) (a_cons (e_var 2) a_nil)))))) (by decide +kernel) (tg_many ["cell", "count"] [⟨325, 27, 325, 31⟩, ⟨325, 33, 325, 38⟩] [3, 4] rfl (hn := names_at (by decide +kernel))) (ts_one (t_cmp c_eq (e_var 4) e_int)) (e_var 3)) a_nil) (by decide +kernel))))))⟩
noncomputable def g_lost : List W → M W := bodyM 5 3 r_lost.1
theorem kr_lost {m : Mo} {A : Ad} (G : Glb m A) : FnM m (tab A) 6 A.f_lost 3 g_lost := by
  obtain ⟨fd, F, b⟩ := G.F_lost
  exact fn_mk F ⟨rfl, rfl, rfl, by decide +kernel, rfl, by decide +kernel, by decide +kernel⟩ b (r_lost.2 G)
theorem k_lost {m : Mo} {A : Ad} (G : Glb m A) : FnM m (tab A) 6 A.f_lost 3 g_lost := kr_lost G
set_option maxHeartbeats 4000000 in
noncomputable def r_shown : { fb : Slots → M Fl // ∀ {m : Mo} {A : Ad} (_ : Glb m A), SSs m (tab A) 0 true true (defScope s_shown) ["source", "recipe", "cells"] (ow0 ["source", "recipe", "cells"]) (defBody s_shown) fb } := ⟨_, fun {m A} G =>
  (ss_cons (s_if (t_cmp c_eq (e_ix (e_var 0) e_int) (e_gstr G.c_DROP))
      (ss_one (s_ret (e_ix (e_ix (e_var 1) (e_ix (e_var 0) e_int)) e_int)))
      ss_nil)
    (ss_cons (s_if (t_cmp c_eq (e_ix (e_var 0) e_int) (e_gstr G.c_PAPER))
      (ss_one (s_ret (e_gstr G.c_NOTHING)))
      ss_nil)
    (ss_one (s_ret (e_if (t_cmp c_is (e_var 2) e_non) (e_var 0) (e_ix (e_var 2) (e_ix (e_var 0) e_int)))))))⟩
noncomputable def g_shown : List W → M W := bodyM 3 3 r_shown.1
theorem kr_shown {m : Mo} {A : Ad} (G : Glb m A) : FnM m (tab A) 1 A.f_shown 3 g_shown := by
  obtain ⟨fd, F, b⟩ := G.F_shown
  exact fn_mk F ⟨rfl, rfl, rfl, by decide +kernel, rfl, by decide +kernel, by decide +kernel⟩ b (r_shown.2 G)
theorem k_shown {m : Mo} {A : Ad} (G : Glb m A) : FnM m (tab A) 1 A.f_shown 3 g_shown := kr_shown G
set_option maxHeartbeats 4000000 in
noncomputable def r_outcome : { fb : Slots → M Fl // ∀ {m : Mo} {A : Ad} (_ : Glb m A), SSs m (tab A) 3 true true (defScope s_outcome) ["width", "height", "recipe", "cells", "ends", "papers", "rows", "source", "paper"] (ow0 ["width", "height", "recipe", "cells", "ends", "papers", "rows", "source", "paper"]) (defBody s_outcome) fb } := ⟨_, fun {m A} G =>
  (ss_cons (s_asg (e_call rfl ((k_origins_of G).mono (by decide)) G.g_origins_of (a_cons (e_var 0) (a_cons (e_var 1) (a_cons (e_var 2) a_nil)))) (g_tup (n := 2) rfl (gs_cons (g_name 4) (gs_cons (g_name 5) gs_nil))))
    (ss_cons (s_set 6 (e_lst (a_cons (e_lc [("source", 7)] rfl (it_val (e_var 4)) (by decide +kernel) (tg_one 7) ts_nil (e_call rfl ((k_shown G).mono (by decide)) G.g_shown (a_cons (e_var 7) (a_cons (e_var 2) (a_cons (e_var 3) a_nil))))) a_nil)))
    (ss_cons (s_expr (e_bm PySem.F.plainAttrs_list PySem.F.slot_list_extend PySem.F.type_list_extend m_extend (e_var 6) (a_cons (e_lc [("paper", 8)] rfl (it_val (e_var 5)) (by decide +kernel) (tg_one 8) ts_nil (e_lc [("source", 7)] rfl (it_val (e_var 8)) (by decide +kernel) (tg_one 7) ts_nil (e_call rfl ((k_shown G).mono (by decide)) G.g_shown (a_cons (e_var 7) (a_cons (e_var 2) (a_cons (e_var 3) a_nil)))))) a_nil)))
    (ss_one (s_ret (e_var 6))))))⟩
noncomputable def g_outcome : List W → M W := bodyM 9 4 r_outcome.1
theorem kr_outcome {m : Mo} {A : Ad} (G : Glb m A) : FnM m (tab A) 4 A.f_outcome 4 g_outcome := by
  obtain ⟨fd, F, b⟩ := G.F_outcome
  exact fn_mk F ⟨rfl, rfl, rfl, by decide +kernel, rfl, by decide +kernel, by decide +kernel⟩ b (r_outcome.2 G)
theorem k_outcome {m : Mo} {A : Ad} (G : Glb m A) : FnM m (tab A) 4 A.f_outcome 4 g_outcome := kr_outcome G
set_option maxHeartbeats 4000000 in
noncomputable def r_check_two : { fb : Slots → M Fl // ∀ {m : Mo} {A : Ad} (_ : Glb m A), SSs m (tab A) 5 true true (defScope s_check_two) ["width", "height", "one", "other"] (ow0 ["width", "height", "one", "other"]) (defBody s_check_two) fb } := ⟨_, fun {m A} G =>
  (ss_cons (s_expr (e_call rfl ((k_check_size G).mono (by decide)) G.g_check_size (a_cons (e_var 0) (a_cons (e_var 1) a_nil))))
    (ss_cons (s_expr (e_call rfl ((k_check_recipe G).mono (by decide)) G.g_check_recipe (a_cons (e_var 0) (a_cons (e_var 1) (a_cons (e_var 2) a_nil)))))
    (ss_one (s_expr (e_call rfl ((k_check_recipe G).mono (by decide)) G.g_check_recipe (a_cons (e_var 0) (a_cons (e_var 1) (a_cons (e_var 3) a_nil))))))))⟩
noncomputable def g_check_two : List W → M W := bodyM 4 4 r_check_two.1
theorem kr_check_two {m : Mo} {A : Ad} (G : Glb m A) : FnM m (tab A) 6 A.f_check_two 4 g_check_two := by
  obtain ⟨fd, F, b⟩ := G.F_check_two
  exact fn_mk F ⟨rfl, rfl, rfl, by decide +kernel, rfl, by decide +kernel, by decide +kernel⟩ b (r_check_two.2 G)
theorem k_check_two {m : Mo} {A : Ad} (G : Glb m A) : FnM m (tab A) 6 A.f_check_two 4 g_check_two := kr_check_two G
set_option maxHeartbeats 4000000 in
noncomputable def r_are_alike : { fb : Slots → M Fl // ∀ {m : Mo} {A : Ad} (_ : Glb m A), SSs m (tab A) 4 true true (defScope s_are_alike) ["width", "height", "one", "other"] (ow0 ["width", "height", "one", "other"]) (defBody s_are_alike) fb } := ⟨_, fun {m A} G =>
  (ss_one (s_ret (e_cmp c_eq (e_call rfl ((k_outcome G).mono (by decide)) G.g_outcome (a_cons (e_var 0) (a_cons (e_var 1) (a_cons (e_var 2) (a_cons e_non a_nil))))) (e_call rfl ((k_outcome G).mono (by decide)) G.g_outcome (a_cons (e_var 0) (a_cons (e_var 1) (a_cons (e_var 3) (a_cons e_non a_nil))))))))⟩
noncomputable def g_are_alike : List W → M W := bodyM 4 4 r_are_alike.1
theorem kr_are_alike {m : Mo} {A : Ad} (G : Glb m A) : FnM m (tab A) 5 A.f_are_alike 4 g_are_alike := by
  obtain ⟨fd, F, b⟩ := G.F_are_alike
  exact fn_mk F ⟨rfl, rfl, rfl, by decide +kernel, rfl, by decide +kernel, by decide +kernel⟩ b (r_are_alike.2 G)
theorem k_are_alike {m : Mo} {A : Ad} (G : Glb m A) : FnM m (tab A) 5 A.f_are_alike 4 g_are_alike := kr_are_alike G
set_option maxHeartbeats 4000000 in
noncomputable def r_alike : { fb : Slots → M Fl // ∀ {m : Mo} {A : Ad} (_ : Glb m A), SSs m (tab A) 6 true true (defScope s_alike) ["width", "height", "one", "other"] (ow0 ["width", "height", "one", "other"]) (defBody s_alike) fb } := ⟨_, fun {m A} G =>
  (ss_cons (s_expr (e_call rfl ((k_check_two G).mono (by decide)) G.g_check_two (a_cons (e_var 0) (a_cons (e_var 1) (a_cons (e_var 2) (a_cons (e_var 3) a_nil))))))
    (ss_one (s_ret (e_call rfl ((k_are_alike G).mono (by decide)) G.g_are_alike (a_cons (e_var 0) (a_cons (e_var 1) (a_cons (e_var 2) (a_cons (e_var 3) a_nil))))))))⟩
noncomputable def g_alike : List W → M W := bodyM 4 4 r_alike.1
theorem kr_alike {m : Mo} {A : Ad} (G : Glb m A) : FnM m (tab A) 7 A.f_alike 4 g_alike := by
  obtain ⟨fd, F, b⟩ := G.F_alike
  exact fn_mk F ⟨rfl, rfl, rfl, by decide +kernel, rfl, by decide +kernel, by decide +kernel⟩ b (r_alike.2 G)
theorem k_alike {m : Mo} {A : Ad} (G : Glb m A) : FnM m (tab A) 7 A.f_alike 4 g_alike := kr_alike G
set_option maxHeartbeats 4000000 in
noncomputable def r_texts : { fb : Slots → M Fl // ∀ {m : Mo} {A : Ad} (_ : Glb m A), SSs m (tab A) 0 true true (defScope s_texts) ["size", "found", "turn", "text", "letter"] (ow0 ["size", "found", "turn", "text", "letter"]) (defBody s_texts) fb } := ⟨_, fun {m A} G =>
  (ss_cons (s_set 1 (e_lst (a_cons e_str a_nil)))
    (ss_cons (s_for rfl (it_rng1 G.n_range (a_cons (e_var 0) a_nil)) (g_name 2)
      (ss_one (s_setLc2 [("text", 3), ("letter", 4)] [4] 1 rfl (it_val (e_var 1)) (by decide +kernel) (tg_one 3) (it_val (e_gstr G.c_PARTING)) (tg_one 4) ts_nil (e_bin o_add (e_var 3) (e_var 4)))))
    (ss_one (s_ret (e_var 1)))))⟩
noncomputable def g_texts : List W → M W := bodyM 5 1 r_texts.1
theorem kr_texts {m : Mo} {A : Ad} (G : Glb m A) : FnM m (tab A) 1 A.f_texts 1 g_texts := by
  obtain ⟨fd, F, b⟩ := G.F_texts
  exact fn_mk F ⟨rfl, rfl, rfl, by decide +kernel, rfl, by decide +kernel, by decide +kernel⟩ b (r_texts.2 G)
theorem k_texts {m : Mo} {A : Ad} (G : Glb m A) : FnM m (tab A) 1 A.f_texts 1 g_texts := kr_texts G
set_option maxHeartbeats 4000000 in
noncomputable def r_parting_bath : { fb : Slots → M Fl // ∀ {m : Mo} {A : Ad} (_ : Glb m A), SSs m (tab A) 6 true true (defScope s_parting_bath) ["width", "height", "one", "other", "cells"] (ow0 ["width", "height", "one", "other", "cells"]) (defBody s_parting_bath) fb } := ⟨_, fun {m A} G =>
  (ss_cons (s_expr (e_call rfl ((k_check_two G).mono (by decide)) G.g_check_two (a_cons (e_var 0) (a_cons (e_var 1) (a_cons (e_var 2) (a_cons (e_var 3) a_nil))))))
    (ss_cons (s_if (t_cmp c_gt (e_bin o_mul (e_var 0) (e_var 1)) (e_gint G.c_FEW_CELLS_origins))
      (ss_one s_never)
      ss_nil)
    (ss_cons (s_for rfl (it_val (e_call rfl ((k_texts G).mono (by decide)) G.g_texts (a_cons (e_bin o_mul (e_var 0) (e_var 1)) a_nil))) (g_name 4)
      (ss_one (s_if (t_cmp c_ne (e_call rfl ((k_outcome G).mono (by decide)) G.g_outcome (a_cons (e_var 0) (a_cons (e_var 1) (a_cons (e_var 2) (a_cons (e_var 4) a_nil))))) (e_call rfl ((k_outcome G).mono (by decide)) G.g_outcome (a_cons (e_var 0) (a_cons (e_var 1) (a_cons (e_var 3) (a_cons (e_var 4) a_nil))))))
      (ss_one (s_ret (e_var 4)))
      ss_nil)))
    (ss_one (s_ret e_non)))))⟩
noncomputable def g_parting_bath : List W → M W := bodyM 5 4 r_parting_bath.1
theorem kr_parting_bath {m : Mo} {A : Ad} (G : Glb m A) : FnM m (tab A) 7 A.f_parting_bath 4 g_parting_bath := by
  obtain ⟨fd, F, b⟩ := G.F_parting_bath
  exact fn_mk F ⟨rfl, rfl, rfl, by decide +kernel, rfl, by decide +kernel, by decide +kernel⟩ b (r_parting_bath.2 G)
theorem k_parting_bath {m : Mo} {A : Ad} (G : Glb m A) : FnM m (tab A) 7 A.f_parting_bath 4 g_parting_bath := kr_parting_bath G
set_option maxHeartbeats 4000000 in
noncomputable def r_check_papers : { fb : Slots → M Fl // ∀ {m : Mo} {A : Ad} (_ : Glb m A), SSs m (tab A) 1 true true (defScope s_check_papers) ["rows", "papers", "index", "signs"] (ow0 ["rows", "papers", "index", "signs"]) (defBody s_check_papers) fb } := ⟨_, fun {m A} G =>
  (ss_cons (s_for rfl (it_enumerate G.n_enumerate (a_cons (e_var 1) a_nil)) (g_tup (n := 2) rfl (gs_cons (g_name 2) (gs_cons (g_name 3) gs_nil)))
      (ss_one (s_if (t_w (w_or (t_cmp c_eq (e_var 2) (e_blt n_len G.n_len (a_cons (e_var 0) a_nil) PySem.boot_len)) (w_or1 (t_not (t_val (e_call rfl ((k_are_signs G).mono (by decide)) G.g_are_signs (a_cons (e_blt n_len G.n_len (a_cons (e_ix (e_var 0) (e_var 2)) a_nil) PySem.boot_len) (a_cons (e_var 3) a_nil))))))))
      (ss_one s_never)
      ss_nil)))
    (ss_one (s_if (t_cmp c_lt (e_blt n_len G.n_len (a_cons (e_var 1) a_nil) PySem.boot_len) (e_blt n_len G.n_len (a_cons (e_var 0) a_nil) PySem.boot_len))
      (ss_one s_never)
      ss_nil)))⟩
noncomputable def g_check_papers : List W → M W := bodyM 4 2 r_check_papers.1
theorem kr_check_papers {m : Mo} {A : Ad} (G : Glb m A) : FnM m (tab A) 2 A.f_check_papers 2 g_check_papers := by
  obtain ⟨fd, F, b⟩ := G.F_check_papers
  exact fn_mk F ⟨rfl, rfl, rfl, by decide +kernel, rfl, by decide +kernel, by decide +kernel⟩ b (r_check_papers.2 G)
theorem k_check_papers {m : Mo} {A : Ad} (G : Glb m A) : FnM m (tab A) 2 A.f_check_papers 2 g_check_papers := kr_check_papers G
set_option maxHeartbeats 4000000 in
noncomputable def r_told : { fb : Slots → M Fl // ∀ {m : Mo} {A : Ad} (_ : Glb m A), SSs m (tab A) 5 true true (defScope s_told) ["width", "height", "recipe", "papers", "rows", "found", "row", "signs", "source", "sign", "due", "cell"] (ow0 ["width", "height", "recipe", "papers", "rows", "found", "row", "signs", "source", "sign", "due", "cell"]) (defBody s_told) fb } := ⟨_, fun {m A} G =>
  (ss_cons (s_expr (e_call rfl ((k_check_size G).mono (by decide)) G.g_check_size (a_cons (e_var 0) (a_cons (e_var 1) a_nil))))
    (ss_cons (s_expr (e_call rfl ((k_check_recipe G).mono (by decide)) G.g_check_recipe (a_cons (e_var 0) (a_cons (e_var 1) (a_cons (e_var 2) a_nil)))))
    (ss_cons (s_set 4 (e_ix (e_call rfl ((k_origins_of G).mono (by decide)) G.g_origins_of (a_cons (e_var 0) (a_cons (e_var 1) (a_cons (e_var 2) a_nil)))) e_int))
    (ss_cons (s_expr (e_call rfl ((k_check_papers G).mono (by decide)) G.g_check_papers (a_cons (e_var 4) (a_cons (e_var 3) a_nil))))
    (ss_cons (s_set 5 e_dnew)
    (ss_cons (s_for rfl (it_zip G.n_zip (a_cons (e_var 4) (a_cons (e_var 3) a_nil))) (g_tup (n := 2) rfl (gs_cons (g_name 6) (gs_cons (g_name 7) gs_nil)))
      (ss_one (s_for rfl (it_zip G.n_zip (a_cons (e_var 6) (a_cons (e_var 7) a_nil))) (g_tup (n := 2) rfl (gs_cons (g_name 8) (gs_cons (g_name 9) gs_nil)))
      (ss_cons (s_set 10 (e_if (t_cmp c_eq (e_ix (e_var 8) e_int) (e_gstr G.c_CELL)) (e_dsetd (e_var 5) (e_ix (e_var 8) e_int) (e_var 9)) (e_call rfl ((k_shown G).mono (by decide)) G.g_shown (a_cons (e_var 8) (a_cons (e_var 2) (a_cons e_non a_nil))))))
    (ss_one (s_if (t_cmp c_ne (e_var 10) (e_var 9))
      (ss_one (s_ret e_non))
      ss_nil))))))
    (ss_one (s_ret (e_bm PySem.F.plainAttrs_str PySem.F.slot_str_join PySem.F.type_str_join m_join e_str (a_cons (e_lc [("cell", 11)] rfl (it_rng1 G.n_range (a_cons (e_bin o_mul (e_var 0) (e_var 1)) a_nil)) (by decide +kernel) (tg_one 11) ts_nil (e_dget2 (e_var 5) (e_var 11) (e_gstr G.c_UNTOLD))) a_nil))))))))))⟩
noncomputable def g_told : List W → M W := bodyM 12 4 r_told.1
theorem kr_told {m : Mo} {A : Ad} (G : Glb m A) : FnM m (tab A) 6 A.f_told 4 g_told := by
  obtain ⟨fd, F, b⟩ := G.F_told
  exact fn_mk F ⟨rfl, rfl, rfl, by decide +kernel, rfl, by decide +kernel, by decide +kernel⟩ b (r_told.2 G)
theorem k_told {m : Mo} {A : Ad} (G : Glb m A) : FnM m (tab A) 6 A.f_told 4 g_told := kr_told G
set_option maxHeartbeats 4000000 in
noncomputable def r_plain : { fb : Slots → M Fl // ∀ {m : Mo} {A : Ad} (_ : Glb m A), SSs m (tab A) 0 true true (defScope s_plain) ["width", "height", "deed", "length", "stride"] (ow0 ["width", "height", "deed", "length", "stride"]) (defBody s_plain) fb } := ⟨_, fun {m A} G =>
  (ss_cons (s_set 3 (e_if (t_cmp c_eq (e_ix (e_var 2) e_int) (e_gstr G.c_RAKE)) (e_var 0) (e_var 1)))
    (ss_one (s_ret (e_tup (a_cons (e_ix (e_var 2) e_int) (a_cons (e_bty n_tuple G.n_tuple (a_cons (e_lc [("stride", 4)] rfl (it_val (e_ix (e_var 2) e_int)) (by decide +kernel) (tg_one 4) ts_nil (e_bin o_mod (e_bty n_int G.n_int (a_cons (e_var 4) a_nil) (by decide +kernel)) (e_var 3))) a_nil) (by decide +kernel)) a_nil))))))⟩
noncomputable def g_plain : List W → M W := bodyM 5 3 r_plain.1
theorem kr_plain {m : Mo} {A : Ad} (G : Glb m A) : FnM m (tab A) 1 A.f_plain 3 g_plain := by
  obtain ⟨fd, F, b⟩ := G.F_plain
  exact fn_mk F ⟨rfl, rfl, rfl, by decide +kernel, rfl, by decide +kernel, by decide +kernel⟩ b (r_plain.2 G)
theorem k_plain {m : Mo} {A : Ad} (G : Glb m A) : FnM m (tab A) 1 A.f_plain 3 g_plain := kr_plain G
set_option maxHeartbeats 4000000 in
noncomputable def r_turned_back : { fb : Slots → M Fl // ∀ {m : Mo} {A : Ad} (_ : Glb m A), SSs m (tab A) 1 true true (defScope s_turned_back) ["width", "height", "deed", "stride"] (ow0 ["width", "height", "deed", "stride"]) (defBody s_turned_back) fb } := ⟨_, fun {m A} G =>
  (ss_one (s_ret (e_call rfl ((k_plain G).mono (by decide)) G.g_plain (a_cons (e_var 0) (a_cons (e_var 1) (a_cons (e_tup (a_cons (e_ix (e_var 2) e_int) (a_cons (e_bty n_tuple G.n_tuple (a_cons (e_lc [("stride", 3)] rfl (it_val (e_ix (e_var 2) e_int)) (by decide +kernel) (tg_one 3) ts_nil (e_bin o_sub e_int (e_var 3))) a_nil) (by decide +kernel)) a_nil))) a_nil))))))⟩
noncomputable def g_turned_back : List W → M W := bodyM 4 3 r_turned_back.1
theorem kr_turned_back {m : Mo} {A : Ad} (G : Glb m A) : FnM m (tab A) 2 A.f_turned_back 3 g_turned_back := by
  obtain ⟨fd, F, b⟩ := G.F_turned_back
  exact fn_mk F ⟨rfl, rfl, rfl, by decide +kernel, rfl, by decide +kernel, by decide +kernel⟩ b (r_turned_back.2 G)
theorem k_turned_back {m : Mo} {A : Ad} (G : Glb m A) : FnM m (tab A) 2 A.f_turned_back 3 g_turned_back := kr_turned_back G
set_option maxHeartbeats 4000000 in
noncomputable def r_short : { fb : Slots → M Fl // ∀ {m : Mo} {A : Ad} (_ : Glb m A), SSs m (tab A) 1 true true (defScope s_short) ["width", "height", "recipe", "found", "deed", "last", "one", "other"] (ow0 ["width", "height", "recipe", "found", "deed", "last", "one", "other"]) (defBody s_short) fb } := ⟨_, fun {m A} G =>
  (ss_cons (s_set 3 (e_lst a_nil))
    (ss_cons (s_for rfl (it_val (e_var 2)) (g_name 4)
      (ss_cons (s_if (t_cmp c_notin (e_ix (e_var 4) e_int) (e_tup (a_cons (e_gstr G.c_RAKE) (a_cons (e_gstr G.c_COMB) a_nil))))
      (ss_cons (s_expr (e_bm PySem.F.plainAttrs_list PySem.F.slot_list_append PySem.F.type_list_append m_append (e_var 3) (a_cons (e_var 4) a_nil)))
    (ss_one s_continue))
      ss_nil)
    (ss_cons (s_set 5 (e_var 4))
    (ss_cons (s_if (t_w (w_and (t_cmp c_ne (e_var 3) (e_lst a_nil)) (w_and1 (t_cmp c_eq (e_ix (e_ix (e_var 3) (e_un o_neg e_int)) e_int) (e_ix (e_var 4) e_int)))))
      (ss_one (s_set 5 (e_tup (a_cons (e_ix (e_var 4) e_int) (a_cons (e_bty n_tuple G.n_tuple (a_cons (e_lc [("one", 6), ("other", 7)] rfl (it_zip G.n_zip (a_cons (e_ix (e_bm0 PySem.F.plainAttrs_list PySem.F.slot_list_pop PySem.F.type_list_pop m_pop (e_var 3)) e_int) (a_cons (e_ix (e_var 4) e_int) a_nil))) (by decide +kernel) (tg_many ["one", "other"] [⟨391, 52, 391, 55⟩, ⟨391, 57, 391, 62⟩] [6, 7] rfl (hn := names_at (by decide +kernel))) ts_nil (e_bin o_add (e_var 6) (e_var 7))) a_nil) (by decide +kernel)) a_nil)))))
      ss_nil)
    (ss_cons (s_set 5 (e_call rfl ((k_plain G).mono (by decide)) G.g_plain (a_cons (e_var 0) (a_cons (e_var 1) (a_cons (e_var 5) a_nil)))))
    (ss_one (s_if (t_cmp c_gt (e_blt (n_max rfl) G.n_max (a_cons (e_ix (e_var 5) e_int) a_nil) (by decide +kernel)) e_int)
      (ss_one (s_expr (e_bm PySem.F.plainAttrs_list PySem.F.slot_list_append PySem.F.type_list_append m_append (e_var 3) (a_cons (e_var 5) a_nil))))
      ss_nil)))))))
    (ss_one (s_ret (e_bty n_tuple G.n_tuple (a_cons (e_var 3) a_nil) (by decide +kernel))))))⟩
noncomputable def g_short : List W → M W := bodyM 8 3 r_short.1
theorem kr_short {m : Mo} {A : Ad} (G : Glb m A) : FnM m (tab A) 2 A.f_short 3 g_short := by
  obtain ⟨fd, F, b⟩ := G.F_short
  exact fn_mk F ⟨rfl, rfl, rfl, by decide +kernel, rfl, by decide +kernel, by decide +kernel⟩ b (r_short.2 G)
theorem k_short {m : Mo} {A : Ad} (G : Glb m A) : FnM m (tab A) 2 A.f_short 3 g_short := kr_short G
set_option maxHeartbeats 4000000 in
noncomputable def r_shortened : { fb : Slots → M Fl // ∀ {m : Mo} {A : Ad} (_ : Glb m A), SSs m (tab A) 5 true true (defScope s_shortened) ["bath", "recipe"] (ow0 ["bath", "recipe"]) (defBody s_shortened) fb } := ⟨_, fun {m A} G =>
  (ss_cons (s_expr (e_call rfl ((k_check_recipe G).mono (by decide)) G.g_check_recipe (a_cons (e_propS rfl G.p_Bath_width (k_Bath_width G) calm_Bath_width (e_var 0)) (a_cons (e_propS rfl G.p_Bath_height (k_Bath_height G) calm_Bath_height (e_var 0)) (a_cons (e_var 1) a_nil)))))
    (ss_one (s_ret (e_call rfl ((k_short G).mono (by decide)) G.g_short (a_cons (e_propS rfl G.p_Bath_width (k_Bath_width G) calm_Bath_width (e_var 0)) (a_cons (e_propS rfl G.p_Bath_height (k_Bath_height G) calm_Bath_height (e_var 0)) (a_cons (e_var 1) a_nil)))))))⟩
noncomputable def g_shortened : List W → M W := bodyM 2 2 r_shortened.1
theorem kr_shortened {m : Mo} {A : Ad} (G : Glb m A) : FnM m (tab A) 6 A.f_shortened 2 g_shortened := by
  obtain ⟨fd, F, b⟩ := G.F_shortened
  exact fn_mk F ⟨rfl, rfl, rfl, by decide +kernel, rfl, by decide +kernel, by decide +kernel⟩ b (r_shortened.2 G)
theorem k_shortened {m : Mo} {A : Ad} (G : Glb m A) : FnM m (tab A) 6 A.f_shortened 2 g_shortened := kr_shortened G
set_option maxHeartbeats 4000000 in
noncomputable def r_undoing : { fb : Slots → M Fl // ∀ {m : Mo} {A : Ad} (_ : Glb m A), SSs m (tab A) 5 true true (defScope s_undoing) ["bath", "recipe", "deed", "rows", "turn"] (ow0 ["bath", "recipe", "deed", "rows", "turn"]) (defBody s_undoing) fb } := ⟨_, fun {m A} G =>
  (ss_cons (s_expr (e_call rfl ((k_check_recipe G).mono (by decide)) G.g_check_recipe (a_cons (e_propS rfl G.p_Bath_width (k_Bath_width G) calm_Bath_width (e_var 0)) (a_cons (e_propS rfl G.p_Bath_height (k_Bath_height G) calm_Bath_height (e_var 0)) (a_cons (e_var 1) a_nil)))))
    (ss_cons (s_if (t_not (t_val (e_blt (n_all rfl) G.n_all (a_cons (e_lc [("deed", 2)] rfl (it_val (e_var 1)) (by decide +kernel) (tg_one 2) ts_nil (e_cmp c_in (e_ix (e_var 2) e_int) (e_tup (a_cons (e_gstr G.c_RAKE) (a_cons (e_gstr G.c_COMB) a_nil))))) a_nil) (by decide +kernel))))
      (ss_one (s_ret e_non))
      ss_nil)
    (ss_cons (s_setLc [("turn", 4)] 3 rfl (it_rng1 G.n_range (a_cons (e_blt n_len G.n_len (a_cons (e_var 1) a_nil) PySem.boot_len) a_nil)) (by decide +kernel) (tg_one 4) ts_nil (e_call rfl ((k_turned_back G).mono (by decide)) G.g_turned_back (a_cons (e_propS rfl G.p_Bath_width (k_Bath_width G) calm_Bath_width (e_var 0)) (a_cons (e_propS rfl G.p_Bath_height (k_Bath_height G) calm_Bath_height (e_var 0)) (a_cons (e_ix (e_var 1) (e_bin o_sub (e_bin o_sub (e_blt n_len G.n_len (a_cons (e_var 1) a_nil) PySem.boot_len) e_int) (e_var 4))) a_nil)))))
    (ss_one (s_ret (e_call rfl ((k_short G).mono (by decide)) G.g_short (a_cons (e_propS rfl G.p_Bath_width (k_Bath_width G) calm_Bath_width (e_var 0)) (a_cons (e_propS rfl G.p_Bath_height (k_Bath_height G) calm_Bath_height (e_var 0)) (a_cons (e_var 3) a_nil)))))))))⟩
noncomputable def g_undoing : List W → M W := bodyM 5 2 r_undoing.1
theorem kr_undoing {m : Mo} {A : Ad} (G : Glb m A) : FnM m (tab A) 6 A.f_undoing 2 g_undoing := by
  obtain ⟨fd, F, b⟩ := G.F_undoing
  exact fn_mk F ⟨rfl, rfl, rfl, by decide +kernel, rfl, by decide +kernel, by decide +kernel⟩ b (r_undoing.2 G)
theorem k_undoing {m : Mo} {A : Ad} (G : Glb m A) : FnM m (tab A) 6 A.f_undoing 2 g_undoing := kr_undoing G
set_option maxHeartbeats 4000000 in
noncomputable def r__law_taken : { fb : Slots → M Fl // ∀ {m : Mo} {A : Ad} (_ : Glb m A), SSs m (tab A) 0 true true (defScope s__law_taken) ["_law_row", "_law_many", "_law_found", "_law_cell"] (ow0 ["_law_row", "_law_many", "_law_found", "_law_cell"]) (defBody s__law_taken) fb } := ⟨_, fun {m A} G =>
  (ss_cons (s_if (t_cmp c_gt (e_ix (e_var 0) e_int) e_int)
      (ss_cons (s_set 2 (e_bin o_mod (e_bty n_int G.n_int (a_cons (e_ix (e_var 0) e_int) a_nil) (by decide +kernel)) (e_var 1)))
    (ss_cons (s_asg (e_bin o_fdiv (e_ix (e_var 0) e_int) (e_var 1)) (g_ix (e_var 0) e_int))
    (ss_one (s_ret (e_var 2)))))
      ss_nil)
    (ss_cons (s_asg (e_bin o_add (e_ix (e_var 0) e_int) e_int) (g_ix (e_var 0) e_int))
    (ss_cons (s_if (t_cmp c_gt (e_ix (e_var 0) e_int) (e_blt n_len G.n_len (a_cons (e_ix (e_var 0) e_int) a_nil) PySem.boot_len))
      (ss_cons (s_asg (e_bin o_mod (e_bty n_int G.n_int (a_cons (e_bin o_add (e_bin o_mul (e_ix (e_var 0) e_int) e_int) e_int) a_nil) (by decide +kernel)) e_int) (g_ix (e_var 0) e_int))
    (ss_one (s_ret (e_bin o_mod (e_bty n_int G.n_int (a_cons (e_bin o_fdiv (e_ix (e_var 0) e_int) e_int) a_nil) (by decide +kernel)) (e_var 1)))))
      ss_nil)
    (ss_cons (s_set 3 (e_ix (e_ix (e_var 0) e_int) (e_bin o_sub (e_ix (e_var 0) e_int) e_int)))
    (ss_cons (s_asg (e_bin o_mod (e_bty n_int G.n_int (a_cons (e_bin o_add (e_bin o_add (e_bin o_mul (e_ix (e_var 0) e_int) e_int) (e_var 3)) e_int) a_nil) (by decide +kernel)) e_int) (g_ix (e_var 0) e_int))
    (ss_cons (s_asg (e_if (t_cmp c_ge (e_var 3) (e_bin o_pow e_int e_int)) (e_bin o_fdiv (e_var 3) (e_var 1)) e_int) (g_ix (e_var 0) e_int))
    (ss_one (s_ret (e_bin o_mod (e_bty n_int G.n_int (a_cons (e_var 3) a_nil) (by decide +kernel)) (e_var 1))))))))))⟩
noncomputable def g__law_taken : List W → M W := bodyM 4 2 r__law_taken.1
theorem kr__law_taken {m : Mo} {A : Ad} (G : Glb m A) : FnM m (tab A) 1 A.f__law_taken 2 g__law_taken := by
  obtain ⟨fd, F, b⟩ := G.F__law_taken
  exact fn_mk F ⟨rfl, rfl, rfl, by decide +kernel, rfl, by decide +kernel, by decide +kernel⟩ b (r__law_taken.2 G)
theorem k__law_taken {m : Mo} {A : Ad} (G : Glb m A) : FnM m (tab A) 1 A.f__law_taken 2 g__law_taken := kr__law_taken G
set_option maxHeartbeats 4000000 in
noncomputable def rs__law_raised (a : Addr) (cc : Nat) (d : Option (Addr × List (Str × V))) : { fb : Slots → M Fl // ∀ {m : Mo} {A : Ad} (_ : Glb m A), SSs m ((tab A).plus d) 1 false true (defScope s__law_raised) ["_law_work", "e", "_law_marks", "_law_at"] (owE (tab A) ["_law_work", "e", "_law_marks", "_law_at"] a cc d) (trySuite (defBody s__law_raised)) fb } := ⟨_, fun {m A} G =>
  (ss_cons (s_set 2 (e_lst (a_cons (e_isE plus_mem 1 [((3, 1), false)] (by intro p hp; simp only [List.mem_cons, List.not_mem_nil, or_false] at hp; rcases hp with rfl <;> first | exact ⟨G.exc_InvalidRecipe, G.kit_InvalidRecipe_InvalidBath⟩) G.xg_InvalidBath G.n_isinstance (e_var 1)) (a_cons (e_isE plus_mem 3 [((3, 3), true)] (by intro p hp; simp only [List.mem_cons, List.not_mem_nil, or_false] at hp; rcases hp with rfl <;> first | exact ⟨G.exc_InvalidRecipe, G.kit_InvalidRecipe_InvalidRecipe⟩) G.xg_InvalidRecipe G.n_isinstance (e_var 1)) (a_cons (e_isE plus_mem 12 [((3, 12), false)] (by intro p hp; simp only [List.mem_cons, List.not_mem_nil, or_false] at hp; rcases hp with rfl <;> first | exact ⟨G.exc_InvalidRecipe, G.kit_InvalidRecipe_InvalidPapers⟩) G.xg_InvalidPapers G.n_isinstance (e_var 1)) a_nil)))))
    (ss_cons (s_set 2 (e_bin o_add (e_var 2) (e_lst (a_cons (e_isE plus_mem 2 [((3, 2), false)] (by intro p hp; simp only [List.mem_cons, List.not_mem_nil, or_false] at hp; rcases hp with rfl <;> first | exact ⟨G.exc_InvalidRecipe, G.kit_InvalidRecipe_InvalidSize⟩) G.xg_InvalidSize G.n_isinstance (e_var 1)) (a_cons (e_isE plus_mem 4 [((3, 4), false)] (by intro p hp; simp only [List.mem_cons, List.not_mem_nil, or_false] at hp; rcases hp with rfl <;> first | exact ⟨G.exc_InvalidRecipe, G.kit_InvalidRecipe_UnknownCell⟩) G.xg_UnknownCell G.n_isinstance (e_var 1)) (a_cons (e_isE plus_mem 5 [((3, 5), false)] (by intro p hp; simp only [List.mem_cons, List.not_mem_nil, or_false] at hp; rcases hp with rfl <;> first | exact ⟨G.exc_InvalidRecipe, G.kit_InvalidRecipe_InvalidSign⟩) G.xg_InvalidSign G.n_isinstance (e_var 1)) a_nil))))))
    (ss_cons (s_set 2 (e_bin o_add (e_var 2) (e_lst (a_cons (e_isE plus_mem 6 [((3, 6), false)] (by intro p hp; simp only [List.mem_cons, List.not_mem_nil, or_false] at hp; rcases hp with rfl <;> first | exact ⟨G.exc_InvalidRecipe, G.kit_InvalidRecipe_InvalidDeed⟩) G.xg_InvalidDeed G.n_isinstance (e_var 1)) (a_cons (e_isE plus_mem 7 [((3, 7), false)] (by intro p hp; simp only [List.mem_cons, List.not_mem_nil, or_false] at hp; rcases hp with rfl <;> first | exact ⟨G.exc_InvalidRecipe, G.kit_InvalidRecipe_InvalidCells⟩) G.xg_InvalidCells G.n_isinstance (e_var 1)) (a_cons (e_isE plus_mem 8 [((3, 8), false)] (by intro p hp; simp only [List.mem_cons, List.not_mem_nil, or_false] at hp; rcases hp with rfl <;> first | exact ⟨G.exc_InvalidRecipe, G.kit_InvalidRecipe_InvalidNumber⟩) G.xg_InvalidNumber G.n_isinstance (e_var 1)) a_nil))))))
    (ss_cons (s_set 2 (e_bin o_add (e_var 2) (e_lst (a_cons (e_isE plus_mem 9 [((3, 9), false)] (by intro p hp; simp only [List.mem_cons, List.not_mem_nil, or_false] at hp; rcases hp with rfl <;> first | exact ⟨G.exc_InvalidRecipe, G.kit_InvalidRecipe_TooMany⟩) G.xg_TooMany G.n_isinstance (e_var 1)) (a_cons (e_isE plus_mem 10 [((3, 10), false)] (by intro p hp; simp only [List.mem_cons, List.not_mem_nil, or_false] at hp; rcases hp with rfl <;> first | exact ⟨G.exc_InvalidRecipe, G.kit_InvalidRecipe_InvalidColours⟩) G.xg_InvalidColours G.n_isinstance (e_var 1)) (a_cons (e_isE plus_mem 11 [((3, 11), false)] (by intro p hp; simp only [List.mem_cons, List.not_mem_nil, or_false] at hp; rcases hp with rfl <;> first | exact ⟨G.exc_InvalidRecipe, G.kit_InvalidRecipe_NoDrop⟩) G.xg_NoDrop G.n_isinstance (e_var 1)) a_nil))))))
    (ss_cons (s_if (t_w (w_or (t_cmp c_ne (e_bm PySem.F.plainAttrs_list PySem.F.slot_list_count PySem.F.type_list_count m_countE (e_var 2) (a_cons e_bl a_nil)) e_int) (w_or1 (t_not (t_val (e_isET (n := "ValueError") plus_mem [(3, true)] (by intro p hp; simp only [List.mem_cons, List.not_mem_nil, or_false] at hp; rcases hp with rfl <;> first | exact ⟨G.exc_InvalidRecipe, G.kit_InvalidRecipe_ValueError⟩) G.n_ValueError (by decide +kernel) G.n_isinstance (e_var 1)))))))
      (ss_one (s_ret (e_tup (a_cons e_str a_nil))))
      ss_nil)
    (ss_cons (s_set 3 (e_bm PySem.F.plainAttrs_list PySem.F.slot_list_index PySem.F.type_list_index m_lindex (e_var 2) (a_cons e_bl a_nil)))
    (ss_cons (s_if (t_cmp c_lt (e_var 3) e_int)
      (ss_one (s_ret (e_if (t_cmp c_eq (e_var 3) e_int) (e_tup (a_cons e_str (a_cons e_stuck a_nil))) (e_tup (a_cons (e_ix (e_lst (a_cons e_str (a_cons e_str (a_cons e_str a_nil)))) (e_var 3)) (a_cons (e_xattr plus_mem [3] (by intro p hp; simp only [List.mem_cons, List.not_mem_nil, or_false] at hp; rcases hp with rfl <;> first | exact G.xf_InvalidRecipe) (e_var 1)) a_nil))))))
      ss_nil)
    (ss_one (s_ret (e_tup (a_cons (e_ix (e_lst (a_cons e_str (a_cons e_str (a_cons e_str (a_cons e_str (a_cons e_str (a_cons e_str (a_cons e_str (a_cons e_str (a_cons e_str a_nil)))))))))) (e_bin o_sub (e_var 3) e_int)) a_nil)))))))))))⟩
noncomputable def rr__law_raised : { fb : Slots → M Fl // ∀ {m : Mo} {A : Ad} (_ : Glb m A), SSs m (tab A) 1 true true (defScope s__law_raised) ["_law_work", "e", "_law_marks", "_law_at"] (ow0 ["_law_work", "e", "_law_marks", "_law_at"]) (tryRest (defBody s__law_raised)) fb } := ⟨_, fun {m A} G =>
  (ss_one (s_ret e_non))⟩
noncomputable def g__law_raised : M W → M W := raisedM flN (subX [(3, true)]) (fun cc a d => (rs__law_raised a cc d).1) rr__law_raised.1 4 1
theorem k__law_raised {m : Mo} {A : Ad} (G : Glb m A) : LamFn m (tab A) 1 "_law_raised" "_law_work" A.f__law_raised g__law_raised := by
  obtain ⟨fd, F, b⟩ := G.F__law_raised
  exact lam_fn (Ng := ["_law_work", "e", "_law_marks", "_law_at"]) (l := [(3, true)]) (ccB := 0) (i := 1) F ⟨rfl, rfl, rfl, by decide +kernel, rfl, by decide +kernel, by decide +kernel⟩ b rfl rfl (Or.inl rfl) rfl rfl G.xg_BathError rfl (by decide) (by intro p hp; simp only [List.mem_cons, List.not_mem_nil, or_false] at hp; rcases hp with rfl <;> first | exact G.exm_InvalidRecipe_BathError) (fun cc a d => (rs__law_raised a cc d).2 G) (rr__law_raised.2 G)
set_option maxHeartbeats 4000000 in
noncomputable def r__law_one : { fb : Slots → M Fl // ∀ {m : Mo} {A : Ad} (_ : Glb m A), SSs m (tab A) 9 true true (defScope s__law_one) ["_law_one_here"] (ow0 ["_law_one_here"]) (defBody s__law_one) fb } := ⟨_, fun {m A} G =>
  (ss_cons (s_set 0 (e_make true 13 rfl G.mk_Bath (k_BathD_initD G) G.g_Bath (a_cons e_int (a_cons e_int (a_cons e_str a_nil)))))
    (ss_cons (s_if (t_cmp c_ne (e_propS rfl G.p_Bath_cells (k_Bath_cells G) calm_Bath_cells (e_ix (e_call rfl ((k_done G).mono (by decide)) G.g_done (a_cons (e_var 0) (a_cons (e_tup (a_cons (e_tup (a_cons e_str (a_cons (e_tup (a_cons e_int a_nil)) a_nil))) (a_cons (e_tup (a_cons e_str (a_cons (e_tup (a_cons (e_un o_neg e_int) a_nil)) a_nil))) (a_cons (e_tup (a_cons e_str (a_cons e_int (a_cons e_str a_nil)))) (a_cons (e_tup (a_cons e_str (a_cons (e_tup (a_cons e_int a_nil)) a_nil))) a_nil))))) a_nil))) e_int)) e_str)
      (ss_one (s_ret e_bl))
      ss_nil)
    (ss_cons (s_if (t_w (w_or (t_cmp c_ne (e_call rfl ((k_last_drops G).mono (by decide)) G.g_last_drops (a_cons (e_var 0) a_nil)) (e_tup (a_cons e_int a_nil))) (w_or (t_cmp c_ne (e_call rfl ((k_ahead_count G).mono (by decide)) G.g_ahead_count (a_cons (e_var 0) (a_cons e_int (a_cons e_str a_nil)))) e_int) (w_or1 (t_cmp c_ne (e_call rfl ((k_first_ahead G).mono (by decide)) G.g_first_ahead (a_cons (e_var 0) (a_cons e_int (a_cons e_str a_nil)))) e_str)))))
      (ss_one (s_ret e_bl))
      ss_nil)
    (ss_cons (s_if (t_w (w_or (t_cmp c_ne (e_call rfl ((k_draw_count G).mono (by decide)) G.g_draw_count (a_cons (e_var 0) a_nil)) e_int) (w_or (t_cmp c_ne (e_call rfl ((k_fewest_draws G).mono (by decide)) G.g_fewest_draws (a_cons (e_var 0) (a_cons e_str a_nil))) e_int) (w_or1 (t_cmp c_isnot (e_call rfl ((k_fewest_draws G).mono (by decide)) G.g_fewest_draws (a_cons (e_var 0) (a_cons e_str a_nil))) e_non)))))
      (ss_one (s_ret e_bl))
      ss_nil)
    (ss_cons (s_if (t_w (w_or (t_cmp c_ne (e_call rfl ((k_first_drops G).mono (by decide)) G.g_first_drops (a_cons (e_var 0) (a_cons e_str (a_cons e_int a_nil)))) (e_tup (a_cons (e_tup (a_cons e_int (a_cons e_str a_nil))) a_nil))) (w_or1 (t_cmp c_isnot (e_call rfl ((k_fewest_drops G).mono (by decide)) G.g_fewest_drops (a_cons (e_var 0) (a_cons e_str (a_cons e_int a_nil)))) e_non))))
      (ss_one (s_ret e_bl))
      ss_nil)
    (ss_cons (s_if (t_cmp c_ne (e_call rfl ((k_recipes_of_drops G).mono (by decide)) G.g_recipes_of_drops (a_cons (e_var 0) (a_cons e_int a_nil))) e_int)
      (ss_one (s_ret e_bl))
      ss_nil)
    (ss_cons (s_if (t_cmp c_ne (e_call rfl ((k_recipes_of_drops G).mono (by decide)) G.g_recipes_of_drops (a_cons (e_var 0) (a_cons e_int a_nil))) e_int)
      (ss_one (s_ret e_bl))
      ss_nil)
    (ss_cons (s_if (t_cmp c_ne (e_call rfl ((k_recipes_of_drops G).mono (by decide)) G.g_recipes_of_drops (a_cons (e_var 0) (a_cons e_int a_nil))) e_int)
      (ss_one (s_ret e_bl))
      ss_nil)
    (ss_one (s_ret (e_and (e_cmp c_eq (e_call rfl ((k_shortened G).mono (by decide)) G.g_shortened (a_cons (e_var 0) (a_cons (e_tup (a_cons (e_tup (a_cons e_str (a_cons (e_tup (a_cons e_int a_nil)) a_nil))) (a_cons (e_tup (a_cons e_str (a_cons (e_tup (a_cons e_int a_nil)) a_nil))) a_nil))) a_nil))) (e_tup a_nil)) (e_one (e_cmp c_eq (e_call rfl ((k_period G).mono (by decide)) G.g_period (a_cons (e_var 0) (a_cons (e_tup (a_cons (e_tup (a_cons e_str (a_cons e_int (a_cons e_str a_nil)))) a_nil)) a_nil))) (e_tup (a_cons e_int (a_cons e_int a_nil))))))))))))))))⟩
noncomputable def g__law_one : List W → M W := bodyM 1 0 r__law_one.1
theorem kr__law_one {m : Mo} {A : Ad} (G : Glb m A) : FnM m (tab A) 10 A.f__law_one 0 g__law_one := by
  obtain ⟨fd, F, b⟩ := G.F__law_one
  exact fn_mk F ⟨rfl, rfl, rfl, by decide +kernel, rfl, by decide +kernel, by decide +kernel⟩ b (r__law_one.2 G)
theorem k__law_one {m : Mo} {A : Ad} (G : Glb m A) : FnM m (tab A) 10 A.f__law_one 0 g__law_one := kr__law_one G
set_option maxHeartbeats 4000000 in
noncomputable def r__law_cross : { fb : Slots → M Fl // ∀ {m : Mo} {A : Ad} (_ : Glb m A), SSs m (tab A) 6 true true (defScope s__law_cross) ["_law_one_here", "_law_rake"] (ow0 ["_law_one_here", "_law_rake"]) (defBody s__law_cross) fb } := ⟨_, fun {m A} G =>
  (ss_cons (s_set 0 (e_make true 13 rfl G.mk_Bath (k_BathD_initD G) G.g_Bath (a_cons e_int (a_cons e_int (a_cons e_str a_nil)))))
    (ss_cons (s_if (t_cmp c_ne (e_propS rfl G.p_Bath_cells (k_Bath_cells G) calm_Bath_cells (e_ix (e_call rfl ((k_done G).mono (by decide)) G.g_done (a_cons (e_var 0) (a_cons (e_tup (a_cons (e_tup (a_cons e_str (a_cons e_int (a_cons e_str a_nil)))) a_nil)) a_nil))) e_int)) e_str)
      (ss_one (s_ret e_bl))
      ss_nil)
    (ss_cons (s_if (t_cmp c_ne (e_call rfl ((k_last_drops G).mono (by decide)) G.g_last_drops (a_cons (e_make true 13 rfl G.mk_Bath (k_BathD_initD G) G.g_Bath (a_cons e_int (a_cons e_int (a_cons e_str a_nil)))) a_nil)) (e_tup (a_cons e_int (a_cons e_int (a_cons e_int a_nil)))))
      (ss_one (s_ret e_bl))
      ss_nil)
    (ss_cons (s_if (t_cmp c_ne (e_propS rfl G.p_Bath_cells (k_Bath_cells G) calm_Bath_cells (e_ix (e_call rfl ((k_done G).mono (by decide)) G.g_done (a_cons (e_var 0) (a_cons (e_tup (a_cons (e_tup (a_cons e_str (a_cons e_int (a_cons e_str a_nil)))) a_nil)) a_nil))) e_int)) e_str)
      (ss_one (s_ret e_bl))
      ss_nil)
    (ss_cons (s_if (t_cmp c_ne (e_propS rfl G.p_Bath_cells (k_Bath_cells G) calm_Bath_cells (e_ix (e_call rfl ((k_done G).mono (by decide)) G.g_done (a_cons (e_var 0) (a_cons (e_tup (a_cons (e_tup (a_cons e_str (a_cons e_int (a_cons e_str a_nil)))) a_nil)) a_nil))) e_int)) e_str)
      (ss_one (s_ret e_bl))
      ss_nil)
    (ss_cons (s_if (t_cmp c_ne (e_call rfl ((k_ahead_count G).mono (by decide)) G.g_ahead_count (a_cons (e_make true 13 rfl G.mk_Bath (k_BathD_initD G) G.g_Bath (a_cons e_int (a_cons e_int (a_cons e_str a_nil)))) (a_cons e_int (a_cons e_str a_nil)))) (e_bin o_mul (e_bin o_mul (e_bin o_mul e_int e_int) e_int) e_int))
      (ss_one (s_ret e_bl))
      ss_nil)
    (ss_cons (s_if (t_w (w_or (t_cmp c_ne (e_ix (e_ix (e_call rfl ((k_sources G).mono (by decide)) G.g_sources (a_cons e_int (a_cons e_int (a_cons (e_tup (a_cons (e_tup (a_cons e_str (a_cons e_int (a_cons e_str a_nil)))) a_nil)) a_nil)))) e_int) e_int) (e_tup (a_cons e_str (a_cons e_int a_nil)))) (w_or1 (t_cmp c_ne (e_call rfl ((k_lost G).mono (by decide)) G.g_lost (a_cons e_int (a_cons e_int (a_cons (e_tup (a_cons (e_tup (a_cons e_str (a_cons e_int (a_cons e_str a_nil)))) a_nil)) a_nil)))) (e_tup (a_cons e_int (a_cons e_int (a_cons e_int (a_cons e_int a_nil)))))))))
      (ss_one (s_ret e_bl))
      ss_nil)
    (ss_cons (s_set 1 (e_tup (a_cons (e_tup (a_cons e_str (a_cons (e_tup (a_cons e_int (a_cons (e_un o_neg e_int) (a_cons e_int a_nil)))) a_nil))) a_nil)))
    (ss_one (s_ret (e_and (e_cmp c_eq (e_propS rfl G.p_Bath_cells (k_Bath_cells G) calm_Bath_cells (e_ix (e_call rfl ((k_done G).mono (by decide)) G.g_done (a_cons (e_var 0) (a_cons (e_var 1) a_nil))) e_int)) e_str) (e_one (e_cmp c_eq (e_call rfl ((k_shortened G).mono (by decide)) G.g_shortened (a_cons (e_var 0) (a_cons (e_var 1) a_nil))) (e_tup (a_cons (e_tup (a_cons e_str (a_cons (e_tup (a_cons e_int (a_cons e_int (a_cons e_int a_nil)))) a_nil))) a_nil)))))))))))))))⟩
noncomputable def g__law_cross : List W → M W := bodyM 2 0 r__law_cross.1
theorem kr__law_cross {m : Mo} {A : Ad} (G : Glb m A) : FnM m (tab A) 7 A.f__law_cross 0 g__law_cross := by
  obtain ⟨fd, F, b⟩ := G.F__law_cross
  exact fn_mk F ⟨rfl, rfl, rfl, by decide +kernel, rfl, by decide +kernel, by decide +kernel⟩ b (r__law_cross.2 G)
theorem k__law_cross {m : Mo} {A : Ad} (G : Glb m A) : FnM m (tab A) 7 A.f__law_cross 0 g__law_cross := kr__law_cross G
theorem lc_law (q : Str) (c : Addr) {x : Str} (h1 : (defScope s_law).names.lookup x = some .cell) (h2 : x ∈ (["_law_script", "_law_row", "_law_many"] : List Str)) : LocO (defScope s_law) (owL ["_law_script", "_law_row", "_law_many"] q c) x := Or.inr ⟨h1, h2⟩
set_option maxHeartbeats 4000000 in
noncomputable def r_law : { fb : Slots → M Fl // ∀ {m : Mo} {A : Ad} (_ : Glb m A), SSs m (tab A) 10 true true (defScope s_law) ["_law_script", "_law_row", "_law_many"] (owL ["_law_script", "_law_row", "_law_many"] (("law" : Str) ++ ".<locals>.") A.cc_law) (defBody s_law) fb } := ⟨_, fun {m A} G =>
  (ss_cons (s_set 1 (e_lst (a_cons (e_var 0) (a_cons e_int (a_cons e_int (a_cons e_int a_nil))))))
    (ss_cons (s_if (t_w (w_or (t_not (t_val (e_iso (e_call0 rfl ((k__law_one G).mono (by decide)) G.g__law_one)))) (w_or1 (t_not (t_val (e_iso (e_call0 rfl ((k__law_cross G).mono (by decide)) G.g__law_cross)))))))
      (ss_one (s_ret e_bl))
      ss_nil)
    (ss_cons (s_set 2 (e_bin o_add e_int (e_call rfl ((k__law_taken G).mono (by decide)) G.g__law_taken (a_cons (e_var 1) (a_cons e_int a_nil)))) (hx := lc_law _ _ rfl (by decide +kernel)))
    (ss_cons (s_if (t_cmp c_ne (e_lamcall (j := 6) rfl (k__law_raised G) (by decide) (by decide) G.g__law_raised G.tb_law (List.mem_singleton.mpr rfl) (by intro p hp _; rw [List.mem_singleton.mp hp]) (e_iso (e_call rfl ((k_done G).mono (by decide)) G.g_done (a_cons (e_make true 13 rfl G.mk_Bath (k_BathD_initD G) G.g_Bath (a_cons e_int (a_cons e_int (a_cons e_str a_nil)))) (a_cons (e_bin o_mulT (e_tup (a_cons (e_tup (a_cons e_str (a_cons (e_tup (a_cons e_int (a_cons e_int a_nil))) a_nil))) a_nil)) (e_bin o_add e_int (e_var 2))) a_nil))))) (e_tup (a_cons e_str (a_cons e_int a_nil))))
      (ss_one (s_ret e_bl))
      ss_nil)
    (ss_cons (s_if (t_cmp c_ne (e_iso (e_call rfl ((k_draw_count G).mono (by decide)) G.g_draw_count (a_cons (e_make true 13 rfl G.mk_Bath (k_BathD_initD G) G.g_Bath (a_cons e_int (a_cons e_int (a_cons e_str a_nil)))) a_nil))) e_int)
      (ss_one (s_ret e_bl))
      ss_nil)
    (ss_cons (s_if (t_cmp c_ne (e_iso (e_call rfl ((k_draw_count G).mono (by decide)) G.g_draw_count (a_cons (e_make true 13 rfl G.mk_Bath (k_BathD_initD G) G.g_Bath (a_cons e_int (a_cons e_int (a_cons e_str a_nil)))) a_nil))) e_int)
      (ss_one (s_ret e_bl))
      ss_nil)
    (ss_cons (s_if (t_cmp c_ne (e_iso (e_call rfl ((k_draw_count G).mono (by decide)) G.g_draw_count (a_cons (e_make true 13 rfl G.mk_Bath (k_BathD_initD G) G.g_Bath (a_cons e_int (a_cons e_int (a_cons e_str a_nil)))) a_nil))) e_int)
      (ss_one (s_ret e_bl))
      ss_nil)
    (ss_cons (s_if (t_cmp c_ne (e_iso (e_call rfl ((k_parting_bath G).mono (by decide)) G.g_parting_bath (a_cons e_int (a_cons e_int (a_cons (e_tup (a_cons (e_tup (a_cons e_str (a_cons e_int (a_cons e_str a_nil)))) a_nil)) (a_cons (e_tup (a_cons (e_tup (a_cons e_str (a_cons e_int (a_cons e_str a_nil)))) a_nil)) a_nil)))))) e_str)
      (ss_one (s_ret e_bl))
      ss_nil)
    (ss_cons (s_if (t_not (t_val (e_iso (e_call rfl ((k_alike G).mono (by decide)) G.g_alike (a_cons e_int (a_cons e_int (a_cons (e_bin o_mulT (e_tup (a_cons (e_tup (a_cons e_str (a_cons e_int (a_cons e_str a_nil)))) a_nil)) (e_var 2)) (a_cons (e_tup (a_cons (e_tup (a_cons e_str (a_cons e_int (a_cons e_str a_nil)))) a_nil)) a_nil))))))))
      (ss_one (s_ret e_bl))
      ss_nil)
    (ss_cons (s_if (t_cmp c_ne (e_iso (e_call rfl ((k_parting_bath G).mono (by decide)) G.g_parting_bath (a_cons e_int (a_cons e_int (a_cons (e_tup (a_cons (e_tup (a_cons e_str (a_cons (e_tup (a_cons e_int a_nil)) a_nil))) a_nil)) (a_cons (e_tup a_nil) a_nil)))))) e_str)
      (ss_one (s_ret e_bl))
      ss_nil)
    (ss_cons (s_if (t_cmp c_isnot (e_iso (e_call rfl ((k_told G).mono (by decide)) G.g_told (a_cons e_int (a_cons e_int (a_cons (e_tup (a_cons (e_tup (a_cons e_str (a_cons (e_tup (a_cons e_int a_nil)) a_nil))) (a_cons (e_tup (a_cons e_str (a_cons (e_tup (a_cons e_int a_nil)) a_nil))) a_nil))) (a_cons (e_tup (a_cons e_str (a_cons e_str a_nil))) a_nil)))))) e_non)
      (ss_one (s_ret e_bl))
      ss_nil)
    (ss_one (s_ret (e_and (e_cmp c_eq (e_iso (e_call rfl ((k_told G).mono (by decide)) G.g_told (a_cons e_int (a_cons e_int (a_cons (e_tup (a_cons (e_tup (a_cons e_str (a_cons (e_tup (a_cons e_int a_nil)) a_nil))) (a_cons (e_tup (a_cons e_str (a_cons (e_tup (a_cons e_int a_nil)) a_nil))) a_nil))) (a_cons (e_tup (a_cons e_str (a_cons e_str a_nil))) a_nil)))))) e_str) (e_one (e_cmp c_eq (e_iso (e_call rfl ((k_undoing G).mono (by decide)) G.g_undoing (a_cons (e_make true 13 rfl G.mk_Bath (k_BathD_initD G) G.g_Bath (a_cons e_int (a_cons e_int (a_cons e_str a_nil)))) (a_cons (e_tup a_nil) a_nil)))) (e_tup a_nil)))))))))))))))))⟩
noncomputable def g_law : List W → M W := bodyM 3 1 r_law.1
end Lw

namespace Lw
open PySem L2 RP
section
variable {S : Sto} {r sc : Nat} {i a b : Int} {v : W}
theorem row0 (h : S[r]? = some (.lst [.ref sc, .int i, .int a, .int b])) : ixM (.ref r) (.int 0) S = .ok (.ref sc) S := by rw [ixM_r 0 (seq_lst h)]; rfl
theorem row1 (h : S[r]? = some (.lst [.ref sc, .int i, .int a, .int b])) : ixM (.ref r) (.int 1) S = .ok (.int i) S := by rw [ixM_r 1 (seq_lst h)]; rfl
theorem row2 (h : S[r]? = some (.lst [.ref sc, .int i, .int a, .int b])) : ixM (.ref r) (.int 2) S = .ok (.int a) S := by rw [ixM_r 2 (seq_lst h)]; rfl
theorem row3 (h : S[r]? = some (.lst [.ref sc, .int i, .int a, .int b])) : ixM (.ref r) (.int 3) S = .ok (.int b) S := by rw [ixM_r 3 (seq_lst h)]; rfl
theorem put1 (h : S[r]? = some (.lst [.ref sc, .int i, .int a, .int b])) : setIxM (.ref r) (.int 1) v S = .ok () (S.set r (.lst [.ref sc, v, .int a, .int b])) := setIx_l (j := 1) h rfl
theorem put2 (h : S[r]? = some (.lst [.ref sc, .int i, .int a, .int b])) : setIxM (.ref r) (.int 2) v S = .ok () (S.set r (.lst [.ref sc, .int i, v, .int b])) := setIx_l (j := 2) h rfl
theorem put3 (h : S[r]? = some (.lst [.ref sc, .int i, .int a, .int b])) : setIxM (.ref r) (.int 3) v S = .ok () (S.set r (.lst [.ref sc, .int i, .int a, v])) := setIx_l (j := 3) h rfl
theorem set_get {o u : Ob} (h : S[r]? = some o) : (S.set r u)[r]? = some u := List.getElem?_set_self (List.getElem?_eq_some_iff.mp h).1
theorem set_get2 {o u : Ob} {j : Nat} (h : S[j]? = some o) (n : j ≠ r) : (S.set r u)[j]? = some o := by rw [List.getElem?_set_ne (Ne.symm n)]; exact h
end
theorem taken_ok {S : Sto} {r : Nat} {m : Int} (h : Row S r) (hm : 0 < m) (hm2 : m < 1152921504606846976) :
    Ho (g__law_taken [.ref r, .int m] S) (fun w S' => ∃ n, w = .int n ∧ 0 ≤ n ∧ n < m ∧ Row S' r ∧ Fr r S S' ∧ S'.length = S.length) noX := by
  obtain ⟨sc, ns, i, a, b, h1, h2, h3, h4⟩ := h
  have md : ∀ x : Int, 0 ≤ x % m ∧ x % m < m := fun x => ⟨Int.emod_nonneg _ (by omega), Int.emod_lt_of_pos _ hm⟩
  unfold g__law_taken
  by_cases hb : 0 < b
  · simp only [ho_ok, ho_ret, ho_bd, ho_bdI, ho_bdO, hos_nx, hos_rt, hos_bk, hos_ct, hos_onx, hos_ort, hos_exS, hos_exT, hos_exA, hos_exI, nxt_nx, nxt_rt, nxt_bk, nxt_ct, hos_seq, hos_asg, fin_nx, fin_rt, ho_body1, ho_body2, ho_body3, ho_body4, ho_meth, ho_bm, ho_prop, ho_if, hos_if, ho_disp, ho_and, ho_or, ho_andT, ho_orT, ho_ite, ho_chain, ret_d, ngW_b, blM_b, truM_b, getSl_0, getSl_s, lstM_d, tupM_d, add_ii, add_ss, sub_ii, mul_ii, fdiv_ii, mod_ii, pow_ii, lt_ii, le_ii, gt_ii, ge_ii, eq_ii, ne_ii, eq_ss, ne_ss, intM_i, lenM_t, ixM_t, seqV_s, seqV_t, partM_i, in_1, List.length_cons, List.length_nil, List.length_singleton, List.map_cons, List.map_nil, List.cons_append, List.nil_append, List.set_cons_zero, List.set_cons_succ, List.replicate_succ, List.replicate_zero, List.append_nil, Nat.reduceAdd, Nat.reduceSub, Nat.zero_add, Nat.sub_self, Nat.reduceEqDiff, Nat.reduceLeDiff, if_true, if_false, ite_true, ite_false, reduceIte, decide_true, decide_false, Bool.not_true, Bool.not_false, true_and, and_true, r__law_taken, row3 h1, put3 h1, hb, hm, hm2]
    exact ⟨_, rfl, (md _).1, (md _).2, ⟨sc, ns, i, a, _, set_get h1, h2, set_get2 h3 h2, h4⟩, Fr.set, List.length_set⟩
  · have g1 := set_get (u := .lst [.ref sc, .int (i + 1), .int a, .int b]) h1
    have g3 := set_get2 (u := .lst [.ref sc, .int (i + 1), .int a, .int b]) h3 h2
    have e0 : seqOf (S.set r (.lst [.ref sc, .int (i + 1), .int a, .int b])) sc = some (ns.map W.int) := seq_scr g3
    have sm : (small64 a || small64 48271) = true := by simp [RP.small64]
    by_cases hl : ((ns.map W.int).length : Int) < i + 1
    · have f1 := set_get (u := .lst [.ref sc, .int (i + 1), .int ((a * 48271 + 11) % 2147483647), .int b]) g1
      have f3 := set_get2 (u := .lst [.ref sc, .int (i + 1), .int ((a * 48271 + 11) % 2147483647), .int b]) g3 h2
      simp only [ho_ok, ho_ret, ho_bd, ho_bdI, ho_bdO, hos_nx, hos_rt, hos_bk, hos_ct, hos_onx, hos_ort, hos_exS, hos_exT, hos_exA, hos_exI, nxt_nx, nxt_rt, nxt_bk, nxt_ct, hos_seq, hos_asg, fin_nx, fin_rt, ho_body1, ho_body2, ho_body3, ho_body4, ho_meth, ho_bm, ho_prop, ho_if, hos_if, ho_disp, ho_and, ho_or, ho_andT, ho_orT, ho_ite, ho_chain, ret_d, ngW_b, blM_b, truM_b, getSl_0, getSl_s, lstM_d, tupM_d, add_ii, add_ss, sub_ii, mul_ii, fdiv_ii, mod_ii, pow_ii, lt_ii, le_ii, gt_ii, ge_ii, eq_ii, ne_ii, eq_ss, ne_ss, intM_i, lenM_t, ixM_t, seqV_s, seqV_t, partM_i, in_1, List.length_cons, List.length_nil, List.length_singleton, List.map_cons, List.map_nil, List.cons_append, List.nil_append, List.set_cons_zero, List.set_cons_succ, List.replicate_succ, List.replicate_zero, List.append_nil, Nat.reduceAdd, Nat.reduceSub, Nat.zero_add, Nat.sub_self, Nat.reduceEqDiff, Nat.reduceLeDiff, if_true, if_false, ite_true, ite_false, reduceIte, decide_true, decide_false, Bool.not_true, Bool.not_false, true_and, and_true, r__law_taken, row3 h1, row1 h1, put1 h1, row0 g1, row1 g1, row2 g1, put2 g1, lenM_r e0, hb, hm, hm2, hl, sm, row2 f1]
      refine ⟨by omega, by omega, _, rfl, (md _).1, (md _).2, ⟨sc, ns, _, _, _, f1, h2, f3, by omega⟩, Fr.set.trans Fr.set, by simp⟩
    · have hn : (i.toNat) < ns.length := by
        rw [List.length_map] at hl
        omega
      have ei : atI (ns.map W.int) (i + 1 - 1) = some (.int ns[i.toNat]) := by
        have : i + 1 - 1 = (i.toNat : Int) := by omega
        rw [this]
        exact atI_n (by rw [List.getElem?_map, List.getElem?_eq_getElem hn]; rfl)
      generalize ns[i.toNat] = c at ei
      have f1 := set_get (u := .lst [.ref sc, .int (i + 1), .int ((a * 48271 + c + 11) % 2147483647), .int b]) g1
      have f3 := set_get2 (u := .lst [.ref sc, .int (i + 1), .int ((a * 48271 + c + 11) % 2147483647), .int b]) g3 h2
      by_cases hc : (10 : Int) ^ (18 : Int).toNat ≤ c
      · simp only [ho_ok, ho_ret, ho_bd, ho_bdI, ho_bdO, hos_nx, hos_rt, hos_bk, hos_ct, hos_onx, hos_ort, hos_exS, hos_exT, hos_exA, hos_exI, nxt_nx, nxt_rt, nxt_bk, nxt_ct, hos_seq, hos_asg, fin_nx, fin_rt, ho_body1, ho_body2, ho_body3, ho_body4, ho_meth, ho_bm, ho_prop, ho_if, hos_if, ho_disp, ho_and, ho_or, ho_andT, ho_orT, ho_ite, ho_chain, ret_d, ngW_b, blM_b, truM_b, getSl_0, getSl_s, lstM_d, tupM_d, add_ii, add_ss, sub_ii, mul_ii, fdiv_ii, mod_ii, pow_ii, lt_ii, le_ii, gt_ii, ge_ii, eq_ii, ne_ii, eq_ss, ne_ss, intM_i, lenM_t, ixM_t, seqV_s, seqV_t, partM_i, in_1, List.length_cons, List.length_nil, List.length_singleton, List.map_cons, List.map_nil, List.cons_append, List.nil_append, List.set_cons_zero, List.set_cons_succ, List.replicate_succ, List.replicate_zero, List.append_nil, Nat.reduceAdd, Nat.reduceSub, Nat.zero_add, Nat.sub_self, Nat.reduceEqDiff, Nat.reduceLeDiff, if_true, if_false, ite_true, ite_false, reduceIte, decide_true, decide_false, Bool.not_true, Bool.not_false, true_and, and_true, r__law_taken, row3 h1, row1 h1, put1 h1, row0 g1, row1 g1, row2 g1, put2 g1, lenM_r e0, hb, hm, hm2, hl, sm, ixM_r _ e0, ei, row2 f1, hc, put3 f1]
        exact ⟨by omega, ⟨by omega, by omega, by decide⟩, _, rfl, (md _).1, (md _).2, ⟨sc, ns, _, _, _, set_get f1, h2, set_get2 f3 h2, by omega⟩, (Fr.set.trans Fr.set).trans Fr.set, by simp⟩
      · simp only [ho_ok, ho_ret, ho_bd, ho_bdI, ho_bdO, hos_nx, hos_rt, hos_bk, hos_ct, hos_onx, hos_ort, hos_exS, hos_exT, hos_exA, hos_exI, nxt_nx, nxt_rt, nxt_bk, nxt_ct, hos_seq, hos_asg, fin_nx, fin_rt, ho_body1, ho_body2, ho_body3, ho_body4, ho_meth, ho_bm, ho_prop, ho_if, hos_if, ho_disp, ho_and, ho_or, ho_andT, ho_orT, ho_ite, ho_chain, ret_d, ngW_b, blM_b, truM_b, getSl_0, getSl_s, lstM_d, tupM_d, add_ii, add_ss, sub_ii, mul_ii, fdiv_ii, mod_ii, pow_ii, lt_ii, le_ii, gt_ii, ge_ii, eq_ii, ne_ii, eq_ss, ne_ss, intM_i, lenM_t, ixM_t, seqV_s, seqV_t, partM_i, in_1, List.length_cons, List.length_nil, List.length_singleton, List.map_cons, List.map_nil, List.cons_append, List.nil_append, List.set_cons_zero, List.set_cons_succ, List.replicate_succ, List.replicate_zero, List.append_nil, Nat.reduceAdd, Nat.reduceSub, Nat.zero_add, Nat.sub_self, Nat.reduceEqDiff, Nat.reduceLeDiff, if_true, if_false, ite_true, ite_false, reduceIte, decide_true, decide_false, Bool.not_true, Bool.not_false, true_and, and_true, r__law_taken, row3 h1, row1 h1, put1 h1, row0 g1, row1 g1, row2 g1, put2 g1, lenM_r e0, hb, hm, hm2, hl, sm, ixM_r _ e0, ei, row2 f1, hc, put3 f1]
        exact ⟨by omega, ⟨by omega, by omega, by decide⟩, _, rfl, (md _).1, (md _).2, ⟨sc, ns, _, _, _, set_get f1, h2, set_get2 f3 h2, by omega⟩, (Fr.set.trans Fr.set).trans Fr.set, by simp⟩

end Lw


namespace Lw
open PySem L2 RP
theorem isx_b {a : Addr} {b : Bool} {S : Sto} : isxM a (some b) (.adr a) S = .ok (.bl b) S := by simp [isxM]
theorem is3_self {a c : Nat} {b : Bool} : is3 [((a, c), b)] a c = some b := by simp [is3]
theorem subX_self {a : Nat} {b : Bool} : subX [(a, b)] a = some b := by simp [subX]
abbrev marksB : List W := [.bl false, .bl true, .bl false, .bl false, .bl false, .bl false, .bl false, .bl false, .bl false, .bl false, .bl false, .bl false]
theorem count_marksB {S : Sto} {k : Nat} (g : S[k]? = some (.lst marksB)) : countM (.ref k) [.bl true] S = .ok (.int 1) S := by
  unfold countM
  simp only [g]
  rfl
theorem index_marksB {S : Sto} {k : Nat} (g : S[k]? = some (.lst marksB)) : lindexM (.ref k) [.bl true] S = .ok (.int 1) S := by
  unfold lindexM
  simp only [g]
  rfl
set_option maxHeartbeats 2000000 in
theorem raisedB_run (p : Addr × Addr) (z : Int) (S : Sto) : ((rs__law_raised p.1 3 (xdD (flN 3) [.int z] p.2)).1 ((List.replicate 4 none).set 1 (some (.adr p.1))) S) = .ok (.rt (.tup [.str (Str.ofString "recipe"), .int z])) (S ++ [.lst [.bl false, .bl true, .bl false]] ++ [.lst [.bl false, .bl false, .bl false]] ++ [.lst [.bl false, .bl true, .bl false, .bl false, .bl false, .bl false]] ++ [.lst [.bl false, .bl false, .bl false]] ++ [.lst [.bl false, .bl true, .bl false, .bl false, .bl false, .bl false, .bl false, .bl false, .bl false]] ++ [.lst [.bl false, .bl false, .bl false]] ++ [.lst marksB] ++ [.lst [.str (Str.ofString ""), .str (Str.ofString "recipe"), .str (Str.ofString "papers")]]) := by
  have hz2 := sizeLine_big
  have z3 : (3 : Nat) ≤ sizeLine := by omega
  have z1 : (1 : Nat) ≤ sizeLine := by omega
  have z2 : (2 : Nat) ≤ sizeLine := by omega
  generalize hr : (rs__law_raised p.1 3 (xdD (flN 3) [.int z] p.2)).1 ((List.replicate 4 none).set 1 (some (.adr p.1))) S = r
  have key : HoS r (fun fl S' => fl = .rt (.tup [.str (Str.ofString "recipe"), .int z]) ∧ S' = (S ++ [.lst [.bl false, .bl true, .bl false]] ++ [.lst [.bl false, .bl false, .bl false]] ++ [.lst [.bl false, .bl true, .bl false, .bl false, .bl false, .bl false]] ++ [.lst [.bl false, .bl false, .bl false]] ++ [.lst [.bl false, .bl true, .bl false, .bl false, .bl false, .bl false, .bl false, .bl false, .bl false]] ++ [.lst [.bl false, .bl false, .bl false]] ++ [.lst marksB] ++ [.lst [.str (Str.ofString ""), .str (Str.ofString "recipe"), .str (Str.ofString "papers")]])) (fun _ _ _ => False) := by
    rw [← hr]
    have xf : ∀ S : Sto, xfM p.1 (xdD (flN 3) [.int z] p.2) (Str.ofString "index") (.adr p.1) S = .ok (.int z) S := fun S => by
      unfold xfM xdD
      simp only [if_true]
      rfl
    have lc : ([3] : List Nat).contains 3 = true := rfl
    simp only [ho_ok, ho_ret, ho_bd, ho_bdI, ho_bdO, hos_nx, hos_rt, hos_bk, hos_ct, hos_onx, hos_ort, hos_exS, hos_exT, hos_exA, hos_exI, nxt_nx, nxt_rt, nxt_bk, nxt_ct, hos_asg, fin_nx, fin_rt, ho_body1, ho_body2, ho_body3, ho_body4, ho_meth, ho_bm, ho_prop, ho_if, hos_if, ho_disp, ho_and, ho_or, ho_andT, ho_orT, ho_ite, ho_chain, ret_d, ngW_b, blM_b, truM_b, getSl_0, getSl_s, lstM_d, tupM_d, add_ii, add_ss, sub_ii, mul_ii, fdiv_ii, mod_ii, pow_ii, lt_ii, le_ii, gt_ii, ge_ii, eq_ii, ne_ii, eq_ss, ne_ss, intM_i, lenM_t, ixM_t, seqV_s, seqV_t, partM_i, in_1, List.length_cons, List.length_nil, List.length_singleton, List.map_cons, List.map_nil, List.cons_append, List.nil_append, List.set_cons_zero, List.set_cons_succ, List.replicate_succ, List.replicate_zero, List.append_nil, Nat.reduceAdd, Nat.reduceSub, Nat.zero_add, Nat.sub_self, Nat.reduceEqDiff, Nat.reduceLeDiff, if_true, if_false, ite_true, ite_false, reduceIte, decide_true, decide_false, Bool.not_true, Bool.not_false, true_and, and_true, rs__law_raised]
    (try rw [hos_seq]); (try simp only [ho_ok, ho_ret, ho_bd, ho_bdI, ho_bdO, hos_nx, hos_rt, hos_bk, hos_ct, hos_onx, hos_ort, hos_exS, hos_exT, hos_exA, hos_exI, nxt_nx, nxt_rt, nxt_bk, nxt_ct, hos_asg, fin_nx, fin_rt, ho_body1, ho_body2, ho_body3, ho_body4, ho_meth, ho_bm, ho_prop, ho_if, hos_if, ho_disp, ho_and, ho_or, ho_andT, ho_orT, ho_ite, ho_chain, ret_d, ngW_b, blM_b, truM_b, getSl_0, getSl_s, lstM_d, tupM_d, add_ii, add_ss, sub_ii, mul_ii, fdiv_ii, mod_ii, pow_ii, lt_ii, le_ii, gt_ii, ge_ii, eq_ii, ne_ii, eq_ss, ne_ss, intM_i, lenM_t, ixM_t, seqV_s, seqV_t, partM_i, in_1, List.length_cons, List.length_nil, List.length_singleton, List.map_cons, List.map_nil, List.cons_append, List.nil_append, List.set_cons_zero, List.set_cons_succ, List.replicate_succ, List.replicate_zero, List.append_nil, Nat.reduceAdd, Nat.reduceSub, Nat.zero_add, Nat.sub_self, Nat.reduceEqDiff, Nat.reduceLeDiff, if_true, if_false, ite_true, ite_false, reduceIte, decide_true, decide_false, Bool.not_true, Bool.not_false, true_and, and_true, isx_b, is3_self, z3])
    generalize hS1 : S ++ [Ob.lst [.bl false, .bl true, .bl false]] = S1
    have g1 : S1[S.length]? = some (.lst [.bl false, .bl true, .bl false]) := by rw [← hS1]; exact get_last
    have a1 := add_rr (S := S1 ++ [Ob.lst [.bl false, .bl false, .bl false]]) (get_app g1) get_last (by simp; omega)
    (try rw [hos_seq]); (try simp only [ho_ok, ho_ret, ho_bd, ho_bdI, ho_bdO, hos_nx, hos_rt, hos_bk, hos_ct, hos_onx, hos_ort, hos_exS, hos_exT, hos_exA, hos_exI, nxt_nx, nxt_rt, nxt_bk, nxt_ct, hos_asg, fin_nx, fin_rt, ho_body1, ho_body2, ho_body3, ho_body4, ho_meth, ho_bm, ho_prop, ho_if, hos_if, ho_disp, ho_and, ho_or, ho_andT, ho_orT, ho_ite, ho_chain, ret_d, ngW_b, blM_b, truM_b, getSl_0, getSl_s, lstM_d, tupM_d, add_ii, add_ss, sub_ii, mul_ii, fdiv_ii, mod_ii, pow_ii, lt_ii, le_ii, gt_ii, ge_ii, eq_ii, ne_ii, eq_ss, ne_ss, intM_i, lenM_t, ixM_t, seqV_s, seqV_t, partM_i, in_1, List.length_cons, List.length_nil, List.length_singleton, List.map_cons, List.map_nil, List.cons_append, List.nil_append, List.set_cons_zero, List.set_cons_succ, List.replicate_succ, List.replicate_zero, List.append_nil, Nat.reduceAdd, Nat.reduceSub, Nat.zero_add, Nat.sub_self, Nat.reduceEqDiff, Nat.reduceLeDiff, if_true, if_false, ite_true, ite_false, reduceIte, decide_true, decide_false, Bool.not_true, Bool.not_false, true_and, and_true, isx_b, is3_self, z3, a1])
    generalize hS2 : S1 ++ [Ob.lst [.bl false, .bl false, .bl false]] = S2
    have g2 : (S2 ++ [Ob.lst [.bl false, .bl true, .bl false, .bl false, .bl false, .bl false]])[S2.length]? = some (.lst [.bl false, .bl true, .bl false, .bl false, .bl false, .bl false]) := get_last
    generalize hS3 : S2 ++ [Ob.lst [.bl false, .bl true, .bl false, .bl false, .bl false, .bl false]] = S3 at g2 ⊢
    have a2 := add_rr (S := S3 ++ [Ob.lst [.bl false, .bl false, .bl false]]) (get_app g2) get_last (by simp; omega)
    (try rw [hos_seq]); (try simp only [ho_ok, ho_ret, ho_bd, ho_bdI, ho_bdO, hos_nx, hos_rt, hos_bk, hos_ct, hos_onx, hos_ort, hos_exS, hos_exT, hos_exA, hos_exI, nxt_nx, nxt_rt, nxt_bk, nxt_ct, hos_asg, fin_nx, fin_rt, ho_body1, ho_body2, ho_body3, ho_body4, ho_meth, ho_bm, ho_prop, ho_if, hos_if, ho_disp, ho_and, ho_or, ho_andT, ho_orT, ho_ite, ho_chain, ret_d, ngW_b, blM_b, truM_b, getSl_0, getSl_s, lstM_d, tupM_d, add_ii, add_ss, sub_ii, mul_ii, fdiv_ii, mod_ii, pow_ii, lt_ii, le_ii, gt_ii, ge_ii, eq_ii, ne_ii, eq_ss, ne_ss, intM_i, lenM_t, ixM_t, seqV_s, seqV_t, partM_i, in_1, List.length_cons, List.length_nil, List.length_singleton, List.map_cons, List.map_nil, List.cons_append, List.nil_append, List.set_cons_zero, List.set_cons_succ, List.replicate_succ, List.replicate_zero, List.append_nil, Nat.reduceAdd, Nat.reduceSub, Nat.zero_add, Nat.sub_self, Nat.reduceEqDiff, Nat.reduceLeDiff, if_true, if_false, ite_true, ite_false, reduceIte, decide_true, decide_false, Bool.not_true, Bool.not_false, true_and, and_true, isx_b, is3_self, z3, a2])
    generalize hS4 : S3 ++ [Ob.lst [.bl false, .bl false, .bl false]] = S4
    have g4 : (S4 ++ [Ob.lst [.bl false, .bl true, .bl false, .bl false, .bl false, .bl false, .bl false, .bl false, .bl false]])[S4.length]? = some (.lst [.bl false, .bl true, .bl false, .bl false, .bl false, .bl false, .bl false, .bl false, .bl false]) := get_last
    generalize hS5 : S4 ++ [Ob.lst [.bl false, .bl true, .bl false, .bl false, .bl false, .bl false, .bl false, .bl false, .bl false]] = S5 at g4 ⊢
    have a3 := add_rr (S := S5 ++ [Ob.lst [.bl false, .bl false, .bl false]]) (get_app g4) get_last (by simp; omega)
    (try rw [hos_seq]); (try simp only [ho_ok, ho_ret, ho_bd, ho_bdI, ho_bdO, hos_nx, hos_rt, hos_bk, hos_ct, hos_onx, hos_ort, hos_exS, hos_exT, hos_exA, hos_exI, nxt_nx, nxt_rt, nxt_bk, nxt_ct, hos_asg, fin_nx, fin_rt, ho_body1, ho_body2, ho_body3, ho_body4, ho_meth, ho_bm, ho_prop, ho_if, hos_if, ho_disp, ho_and, ho_or, ho_andT, ho_orT, ho_ite, ho_chain, ret_d, ngW_b, blM_b, truM_b, getSl_0, getSl_s, lstM_d, tupM_d, add_ii, add_ss, sub_ii, mul_ii, fdiv_ii, mod_ii, pow_ii, lt_ii, le_ii, gt_ii, ge_ii, eq_ii, ne_ii, eq_ss, ne_ss, intM_i, lenM_t, ixM_t, seqV_s, seqV_t, partM_i, in_1, List.length_cons, List.length_nil, List.length_singleton, List.map_cons, List.map_nil, List.cons_append, List.nil_append, List.set_cons_zero, List.set_cons_succ, List.replicate_succ, List.replicate_zero, List.append_nil, Nat.reduceAdd, Nat.reduceSub, Nat.zero_add, Nat.sub_self, Nat.reduceEqDiff, Nat.reduceLeDiff, if_true, if_false, ite_true, ite_false, reduceIte, decide_true, decide_false, Bool.not_true, Bool.not_false, true_and, and_true, isx_b, is3_self, z3, a3])
    generalize hS6 : S5 ++ [Ob.lst [.bl false, .bl false, .bl false]] = S6
    have g6 : (S6 ++ [Ob.lst marksB])[S6.length]? = some (.lst marksB) := get_last
    generalize hS7 : S6 ++ [Ob.lst marksB] = S7 at g6 ⊢
    have tl := tyN_lst g6
    have n1 : pyNe (.int 1) (.int 1) S7 = .ok (.bl false) S7 := rfl
    (try rw [hos_seq]); (try simp only [ho_ok, ho_ret, ho_bd, ho_bdI, ho_bdO, hos_nx, hos_rt, hos_bk, hos_ct, hos_onx, hos_ort, hos_exS, hos_exT, hos_exA, hos_exI, nxt_nx, nxt_rt, nxt_bk, nxt_ct, hos_asg, fin_nx, fin_rt, ho_body1, ho_body2, ho_body3, ho_body4, ho_meth, ho_bm, ho_prop, ho_if, hos_if, ho_disp, ho_and, ho_or, ho_andT, ho_orT, ho_ite, ho_chain, ret_d, ngW_b, blM_b, truM_b, getSl_0, getSl_s, lstM_d, tupM_d, add_ii, add_ss, sub_ii, mul_ii, fdiv_ii, mod_ii, pow_ii, lt_ii, le_ii, gt_ii, ge_ii, eq_ii, ne_ii, eq_ss, ne_ss, intM_i, lenM_t, ixM_t, seqV_s, seqV_t, partM_i, in_1, List.length_cons, List.length_nil, List.length_singleton, List.map_cons, List.map_nil, List.cons_append, List.nil_append, List.set_cons_zero, List.set_cons_succ, List.replicate_succ, List.replicate_zero, List.append_nil, Nat.reduceAdd, Nat.reduceSub, Nat.zero_add, Nat.sub_self, Nat.reduceEqDiff, Nat.reduceLeDiff, if_true, if_false, ite_true, ite_false, reduceIte, decide_true, decide_false, Bool.not_true, Bool.not_false, true_and, and_true, tl, count_marksB g6, n1, isx_b, subX_self, z1])
    (try rw [hos_seq]); (try simp only [ho_ok, ho_ret, ho_bd, ho_bdI, ho_bdO, hos_nx, hos_rt, hos_bk, hos_ct, hos_onx, hos_ort, hos_exS, hos_exT, hos_exA, hos_exI, nxt_nx, nxt_rt, nxt_bk, nxt_ct, hos_asg, fin_nx, fin_rt, ho_body1, ho_body2, ho_body3, ho_body4, ho_meth, ho_bm, ho_prop, ho_if, hos_if, ho_disp, ho_and, ho_or, ho_andT, ho_orT, ho_ite, ho_chain, ret_d, ngW_b, blM_b, truM_b, getSl_0, getSl_s, lstM_d, tupM_d, add_ii, add_ss, sub_ii, mul_ii, fdiv_ii, mod_ii, pow_ii, lt_ii, le_ii, gt_ii, ge_ii, eq_ii, ne_ii, eq_ss, ne_ss, intM_i, lenM_t, ixM_t, seqV_s, seqV_t, partM_i, in_1, List.length_cons, List.length_nil, List.length_singleton, List.map_cons, List.map_nil, List.cons_append, List.nil_append, List.set_cons_zero, List.set_cons_succ, List.replicate_succ, List.replicate_zero, List.append_nil, Nat.reduceAdd, Nat.reduceSub, Nat.zero_add, Nat.sub_self, Nat.reduceEqDiff, Nat.reduceLeDiff, if_true, if_false, ite_true, ite_false, reduceIte, decide_true, decide_false, Bool.not_true, Bool.not_false, true_and, and_true, tl, index_marksB g6])
    have d1 : decide ((1 : Int) < 3) = true := rfl
    have d2 : ∀ S : Sto, pyEq (.int 1) (.int 0) S = .ok (.bl false) S := fun _ => rfl
    have g8 : (S7 ++ [Ob.lst [.str (Str.ofString ""), .str (Str.ofString "recipe"), .str (Str.ofString "papers")]])[S7.length]? = some (.lst [.str (Str.ofString ""), .str (Str.ofString "recipe"), .str (Str.ofString "papers")]) := get_last
    have a8 : atI [W.str (Str.ofString ""), .str (Str.ofString "recipe"), .str (Str.ofString "papers")] 1 = some (.str (Str.ofString "recipe")) := rfl
    (try rw [hos_seq]); (try simp only [ho_ok, ho_ret, ho_bd, ho_bdI, ho_bdO, hos_nx, hos_rt, hos_bk, hos_ct, hos_onx, hos_ort, hos_exS, hos_exT, hos_exA, hos_exI, nxt_nx, nxt_rt, nxt_bk, nxt_ct, hos_asg, fin_nx, fin_rt, ho_body1, ho_body2, ho_body3, ho_body4, ho_meth, ho_bm, ho_prop, ho_if, hos_if, ho_disp, ho_and, ho_or, ho_andT, ho_orT, ho_ite, ho_chain, ret_d, ngW_b, blM_b, truM_b, getSl_0, getSl_s, lstM_d, tupM_d, add_ii, add_ss, sub_ii, mul_ii, fdiv_ii, mod_ii, pow_ii, lt_ii, le_ii, gt_ii, ge_ii, eq_ii, ne_ii, eq_ss, ne_ss, intM_i, lenM_t, ixM_t, seqV_s, seqV_t, partM_i, in_1, List.length_cons, List.length_nil, List.length_singleton, List.map_cons, List.map_nil, List.cons_append, List.nil_append, List.set_cons_zero, List.set_cons_succ, List.replicate_succ, List.replicate_zero, List.append_nil, Nat.reduceAdd, Nat.reduceSub, Nat.zero_add, Nat.sub_self, Nat.reduceEqDiff, Nat.reduceLeDiff, if_true, if_false, ite_true, ite_false, reduceIte, decide_true, decide_false, Bool.not_true, Bool.not_false, true_and, and_true, d1, Int.reduceLT, d2, z3, ixM_r 1 (seq_lst g8), a8, lc, xf, z2])
  obtain ⟨key⟩ := key
  cases r with
  | ok fl S' =>
    cases fl with
    | xx x sl => exact key.elim
    | nx sl => cases key.1
    | rt w =>
      obtain ⟨e1, e2⟩ := key
      rw [e1, e2]
    | bk sl => cases key.1
    | ct sl => cases key.1
  | ex x S' => exact key.elim
  | bad => exact key.elim
/-- what a bath that cannot be is told by -/
theorem raised_recipe {A : M W} {S : Sto} {z : Int} {P : Sto → Prop} (hP : ∀ S1 o, P S1 → P (S1 ++ [o])) (h : Ho (A S) (fun _ _ => False) (fun x S' => x = ⟨3, [.int z]⟩ ∧ P S')) : Ho (g__law_raised A S) (fun v S' => v = .tup [.str (Str.ofString "recipe"), .int z] ∧ P S') noX := by
  obtain ⟨h⟩ := h
  unfold g__law_raised raisedM
  cases q : A S with
  | ok w S' => rw [q] at h; exact h.elim
  | bad => rw [q] at h; exact h.elim
  | ex x S1 =>
    rw [q] at h
    obtain ⟨rfl, hp⟩ := h
    have ea : atomsV [.int z] = some [.int z] := rfl
    simp only [subX_self, ea]
    rw [uni_of (fun p => raisedB_run p z S1)]
    exact ⟨rfl, by repeat (first | exact hp | apply hP)⟩
end Lw


namespace Lw
open PySem L2 RP
def isB (b : Bool) (r : Res W) : Bool := match r with
  | .ok (.bl c) _ => c == b
  | _ => false
def isI (n : Int) (r : Res W) : Bool := match r with
  | .ok (.int i) _ => decide (i = n)
  | _ => false
def isS (z : Str) (r : Res W) : Bool := match r with
  | .ok (.str x) _ => decide (x = z)
  | _ => false
def isN (r : Res W) : Bool := match r with
  | .ok .non _ => true
  | _ => false
def isT0 (r : Res W) : Bool := match r with
  | .ok (.tup []) _ => true
  | _ => false
def isX (c : Nat) (n : Int) (r : Res W) : Bool := match r with
  | .ex ⟨d, [.int i]⟩ _ => decide (d = c ∧ i = n)
  | _ => false
section
variable {f : Slots → M W} {sl : Slots} {S : Sto} {Q : W → Sto → Prop} {E : XQ}
theorem iso_ok {w : W} {S' : Sto} (e : f (isoSl sl) [] = .ok w S') (hw : noRef w = true) (q : Q w S) : Ho (isoM f sl S) Q E := by
  unfold isoM
  rw [e]
  simp only [if_pos hw]
  exact ⟨q⟩
theorem iso_b {b : Bool} (h : isB b (f (isoSl sl) []) = true) (q : Q (.bl b) S) : Ho (isoM f sl S) Q E := by
  cases e : f (isoSl sl) [] with
  | ok w S' =>
    rw [e] at h
    cases w with
    | bl c =>
      have : c = b := by simpa [isB] using h
      subst this
      exact iso_ok e rfl q
    | _ => cases h
  | _ => rw [e] at h; cases h
theorem iso_i {n : Int} (h : isI n (f (isoSl sl) []) = true) (q : Q (.int n) S) : Ho (isoM f sl S) Q E := by
  cases e : f (isoSl sl) [] with
  | ok w S' =>
    rw [e] at h
    cases w with
    | int i =>
      have : i = n := of_decide_eq_true h
      subst this
      exact iso_ok e rfl q
    | _ => cases h
  | _ => rw [e] at h; cases h
theorem iso_s {z : Str} (h : isS z (f (isoSl sl) []) = true) (q : Q (.str z) S) : Ho (isoM f sl S) Q E := by
  cases e : f (isoSl sl) [] with
  | ok w S' =>
    rw [e] at h
    cases w with
    | str x =>
      have : x = z := of_decide_eq_true h
      subst this
      exact iso_ok e rfl q
    | _ => cases h
  | _ => rw [e] at h; cases h
theorem iso_n (h : isN (f (isoSl sl) []) = true) (q : Q .non S) : Ho (isoM f sl S) Q E := by
  cases e : f (isoSl sl) [] with
  | ok w S' =>
    rw [e] at h
    cases w with
    | non => exact iso_ok e rfl q
    | _ => cases h
  | _ => rw [e] at h; cases h
theorem iso_t0 (h : isT0 (f (isoSl sl) []) = true) (q : Q (.tup []) S) : Ho (isoM f sl S) Q E := by
  cases e : f (isoSl sl) [] with
  | ok w S' =>
    rw [e] at h
    cases w with
    | tup ws =>
      cases ws with
      | nil => exact iso_ok e rfl q
      | cons _ _ => cases h
    | _ => cases h
  | _ => rw [e] at h; cases h
theorem iso_x {c : Nat} {n : Int} (h : isX c n (f (isoSl sl) []) = true) (q : E ⟨c, [.int n]⟩ S) : Ho (isoM f sl S) Q E := by
  cases e : f (isoSl sl) [] with
  | ex x S' =>
    rw [e] at h
    obtain ⟨d, fs⟩ := x
    match fs, h with
    | [.int i], h =>
      have h : decide (d = c ∧ i = n) = true := h
      obtain ⟨rfl, rfl⟩ := of_decide_eq_true h
      unfold isoM
      rw [e]
      exact ⟨q⟩
  | _ => rw [e] at h; cases h
end
set_option maxHeartbeats 4000000 in
theorem law_ok {S : Sto} {sc : Nat} {ns : List Int} (h : S[sc]? = some (.scr ns)) : Ho (g_law [.ref sc] S) (fun v S' => v = .bl true) noX := by
  have hz2 := sizeLine_big
  have h4 : (4 : Nat) ≤ sizeLine := by omega
  have z2 : (2 : Nat) ≤ sizeLine := by omega
  have z0 : (0 : Nat) ≤ sizeLine := by omega
  have hne : sc ≠ S.length := by
    have := (List.getElem?_eq_some_iff.mp h).1
    omega
  have R0 : Row (S ++ [.lst [.ref sc, .int 0, .int 0, .int 0]]) S.length := ⟨sc, ns, 0, 0, 0, get_last, hne, get_app h, by omega⟩
  unfold g_law
  simp only [ho_ok, ho_ret, ho_bd, ho_bdI, ho_bdO, hos_nx, hos_rt, hos_bk, hos_ct, hos_onx, hos_ort, hos_exS, hos_exT, hos_exA, hos_exI, nxt_nx, nxt_rt, nxt_bk, nxt_ct, hos_asg, fin_nx, fin_rt, ho_body1, ho_body2, ho_body3, ho_body4, ho_meth, ho_bm, ho_prop, ho_if, hos_if, ho_disp, ho_and, ho_or, ho_andT, ho_orT, ho_ite, ho_chain, ret_d, ngW_b, blM_b, truM_b, getSl_0, getSl_s, lstM_d, tupM_d, add_ii, add_ss, sub_ii, mul_ii, fdiv_ii, mod_ii, pow_ii, lt_ii, le_ii, gt_ii, ge_ii, eq_ii, ne_ii, eq_ss, ne_ss, intM_i, lenM_t, ixM_t, seqV_s, seqV_t, partM_i, in_1, List.length_cons, List.length_nil, List.length_singleton, List.map_cons, List.map_nil, List.cons_append, List.nil_append, List.set_cons_zero, List.set_cons_succ, List.replicate_succ, List.replicate_zero, List.append_nil, Nat.reduceAdd, Nat.reduceSub, Nat.zero_add, Nat.sub_self, Nat.reduceEqDiff, Nat.reduceLeDiff, if_true, if_false, ite_true, ite_false, reduceIte, decide_true, decide_false, Bool.not_true, Bool.not_false, true_and, and_true, r_law, h4]
  rw [hos_seq]
  (try rw [hos_seq]); (try simp only [ho_ok, ho_ret, ho_bd, ho_bdI, ho_bdO, hos_nx, hos_rt, hos_bk, hos_ct, hos_onx, hos_ort, hos_exS, hos_exT, hos_exA, hos_exI, nxt_nx, nxt_rt, nxt_bk, nxt_ct, hos_asg, fin_nx, fin_rt, ho_body1, ho_body2, ho_body3, ho_body4, ho_meth, ho_bm, ho_prop, ho_if, hos_if, ho_disp, ho_and, ho_or, ho_andT, ho_orT, ho_ite, ho_chain, ret_d, ngW_b, blM_b, truM_b, getSl_0, getSl_s, lstM_d, tupM_d, add_ii, add_ss, sub_ii, mul_ii, fdiv_ii, mod_ii, pow_ii, lt_ii, le_ii, gt_ii, ge_ii, eq_ii, ne_ii, eq_ss, ne_ss, intM_i, lenM_t, ixM_t, seqV_s, seqV_t, partM_i, in_1, List.length_cons, List.length_nil, List.length_singleton, List.map_cons, List.map_nil, List.cons_append, List.nil_append, List.set_cons_zero, List.set_cons_succ, List.replicate_succ, List.replicate_zero, List.append_nil, Nat.reduceAdd, Nat.reduceSub, Nat.zero_add, Nat.sub_self, Nat.reduceEqDiff, Nat.reduceLeDiff, if_true, if_false, ite_true, ite_false, reduceIte, decide_true, decide_false, Bool.not_true, Bool.not_false, true_and, and_true, h4])
  generalize S.length = r at R0 hne ⊢
  generalize S ++ [Ob.lst [.ref sc, .int 0, .int 0, .int 0]] = S0 at R0 ⊢
  (try rw [hos_seq]); (try simp only [ho_ok, ho_ret, ho_bd, ho_bdI, ho_bdO, hos_nx, hos_rt, hos_bk, hos_ct, hos_onx, hos_ort, hos_exS, hos_exT, hos_exA, hos_exI, nxt_nx, nxt_rt, nxt_bk, nxt_ct, hos_asg, fin_nx, fin_rt, ho_body1, ho_body2, ho_body3, ho_body4, ho_meth, ho_bm, ho_prop, ho_if, hos_if, ho_disp, ho_and, ho_or, ho_andT, ho_orT, ho_ite, ho_chain, ret_d, ngW_b, blM_b, truM_b, getSl_0, getSl_s, lstM_d, tupM_d, add_ii, add_ss, sub_ii, mul_ii, fdiv_ii, mod_ii, pow_ii, lt_ii, le_ii, gt_ii, ge_ii, eq_ii, ne_ii, eq_ss, ne_ss, intM_i, lenM_t, ixM_t, seqV_s, seqV_t, partM_i, in_1, List.length_cons, List.length_nil, List.length_singleton, List.map_cons, List.map_nil, List.cons_append, List.nil_append, List.set_cons_zero, List.set_cons_succ, List.replicate_succ, List.replicate_zero, List.append_nil, Nat.reduceAdd, Nat.reduceSub, Nat.zero_add, Nat.sub_self, Nat.reduceEqDiff, Nat.reduceLeDiff, if_true, if_false, ite_true, ite_false, reduceIte, decide_true, decide_false, Bool.not_true, Bool.not_false, true_and, and_true])
  refine iso_b (b := true) (by kernel_rfl) ?_
  try simp only [ho_ok, ho_ret, ho_bd, ho_bdI, ho_bdO, hos_nx, hos_rt, hos_bk, hos_ct, hos_onx, hos_ort, hos_exS, hos_exT, hos_exA, hos_exI, nxt_nx, nxt_rt, nxt_bk, nxt_ct, hos_asg, fin_nx, fin_rt, ho_body1, ho_body2, ho_body3, ho_body4, ho_meth, ho_bm, ho_prop, ho_if, hos_if, ho_disp, ho_and, ho_or, ho_andT, ho_orT, ho_ite, ho_chain, ret_d, ngW_b, blM_b, truM_b, getSl_0, getSl_s, lstM_d, tupM_d, add_ii, add_ss, sub_ii, mul_ii, fdiv_ii, mod_ii, pow_ii, lt_ii, le_ii, gt_ii, ge_ii, eq_ii, ne_ii, eq_ss, ne_ss, intM_i, lenM_t, ixM_t, seqV_s, seqV_t, partM_i, in_1, List.length_cons, List.length_nil, List.length_singleton, List.map_cons, List.map_nil, List.cons_append, List.nil_append, List.set_cons_zero, List.set_cons_succ, List.replicate_succ, List.replicate_zero, List.append_nil, Nat.reduceAdd, Nat.reduceSub, Nat.zero_add, Nat.sub_self, Nat.reduceEqDiff, Nat.reduceLeDiff, if_true, if_false, ite_true, ite_false, reduceIte, decide_true, decide_false, Bool.not_true, Bool.not_false, true_and, and_true]
  refine iso_b (b := true) (by kernel_rfl) ?_
  try simp only [ho_ok, ho_ret, ho_bd, ho_bdI, ho_bdO, hos_nx, hos_rt, hos_bk, hos_ct, hos_onx, hos_ort, hos_exS, hos_exT, hos_exA, hos_exI, nxt_nx, nxt_rt, nxt_bk, nxt_ct, hos_asg, fin_nx, fin_rt, ho_body1, ho_body2, ho_body3, ho_body4, ho_meth, ho_bm, ho_prop, ho_if, hos_if, ho_disp, ho_and, ho_or, ho_andT, ho_orT, ho_ite, ho_chain, ret_d, ngW_b, blM_b, truM_b, getSl_0, getSl_s, lstM_d, tupM_d, add_ii, add_ss, sub_ii, mul_ii, fdiv_ii, mod_ii, pow_ii, lt_ii, le_ii, gt_ii, ge_ii, eq_ii, ne_ii, eq_ss, ne_ss, intM_i, lenM_t, ixM_t, seqV_s, seqV_t, partM_i, in_1, List.length_cons, List.length_nil, List.length_singleton, List.map_cons, List.map_nil, List.cons_append, List.nil_append, List.set_cons_zero, List.set_cons_succ, List.replicate_succ, List.replicate_zero, List.append_nil, Nat.reduceAdd, Nat.reduceSub, Nat.zero_add, Nat.sub_self, Nat.reduceEqDiff, Nat.reduceLeDiff, if_true, if_false, ite_true, ite_false, reduceIte, decide_true, decide_false, Bool.not_true, Bool.not_false, true_and, and_true]
  (try rw [hos_seq]); (try simp only [ho_ok, ho_ret, ho_bd, ho_bdI, ho_bdO, hos_nx, hos_rt, hos_bk, hos_ct, hos_onx, hos_ort, hos_exS, hos_exT, hos_exA, hos_exI, nxt_nx, nxt_rt, nxt_bk, nxt_ct, hos_asg, fin_nx, fin_rt, ho_body1, ho_body2, ho_body3, ho_body4, ho_meth, ho_bm, ho_prop, ho_if, hos_if, ho_disp, ho_and, ho_or, ho_andT, ho_orT, ho_ite, ho_chain, ret_d, ngW_b, blM_b, truM_b, getSl_0, getSl_s, lstM_d, tupM_d, add_ii, add_ss, sub_ii, mul_ii, fdiv_ii, mod_ii, pow_ii, lt_ii, le_ii, gt_ii, ge_ii, eq_ii, ne_ii, eq_ss, ne_ss, intM_i, lenM_t, ixM_t, seqV_s, seqV_t, partM_i, in_1, List.length_cons, List.length_nil, List.length_singleton, List.map_cons, List.map_nil, List.cons_append, List.nil_append, List.set_cons_zero, List.set_cons_succ, List.replicate_succ, List.replicate_zero, List.append_nil, Nat.reduceAdd, Nat.reduceSub, Nat.zero_add, Nat.sub_self, Nat.reduceEqDiff, Nat.reduceLeDiff, if_true, if_false, ite_true, ite_false, reduceIte, decide_true, decide_false, Bool.not_true, Bool.not_false, true_and, and_true])
  refine Ho.call (taken_ok (m := 12) R0 (by omega) (by omega)) ?_
  rintro v S1 ⟨a, rfl, a0, a1, R1, f1, _⟩
  obtain ⟨a, rfl⟩ := Int.eq_ofNat_of_zero_le a0
  have ha : a < 12 := by omega
  have ca : a = 0 ∨ a = 1 ∨ a = 2 ∨ a = 3 ∨ a = 4 ∨ a = 5 ∨ a = 6 ∨ a = 7 ∨ a = 8 ∨ a = 9 ∨ a = 10 ∨ a = 11 := by omega
  try simp only [ho_ok, ho_ret, ho_bd, ho_bdI, ho_bdO, hos_nx, hos_rt, hos_bk, hos_ct, hos_onx, hos_ort, hos_exS, hos_exT, hos_exA, hos_exI, nxt_nx, nxt_rt, nxt_bk, nxt_ct, hos_asg, fin_nx, fin_rt, ho_body1, ho_body2, ho_body3, ho_body4, ho_meth, ho_bm, ho_prop, ho_if, hos_if, ho_disp, ho_and, ho_or, ho_andT, ho_orT, ho_ite, ho_chain, ret_d, ngW_b, blM_b, truM_b, getSl_0, getSl_s, lstM_d, tupM_d, add_ii, add_ss, sub_ii, mul_ii, fdiv_ii, mod_ii, pow_ii, lt_ii, le_ii, gt_ii, ge_ii, eq_ii, ne_ii, eq_ss, ne_ss, intM_i, lenM_t, ixM_t, seqV_s, seqV_t, partM_i, in_1, List.length_cons, List.length_nil, List.length_singleton, List.map_cons, List.map_nil, List.cons_append, List.nil_append, List.set_cons_zero, List.set_cons_succ, List.replicate_succ, List.replicate_zero, List.append_nil, Nat.reduceAdd, Nat.reduceSub, Nat.zero_add, Nat.sub_self, Nat.reduceEqDiff, Nat.reduceLeDiff, if_true, if_false, ite_true, ite_false, reduceIte, decide_true, decide_false, Bool.not_true, Bool.not_false, true_and, and_true]
  (try rw [hos_seq]); (try simp only [ho_ok, ho_ret, ho_bd, ho_bdI, ho_bdO, hos_nx, hos_rt, hos_bk, hos_ct, hos_onx, hos_ort, hos_exS, hos_exT, hos_exA, hos_exI, nxt_nx, nxt_rt, nxt_bk, nxt_ct, hos_asg, fin_nx, fin_rt, ho_body1, ho_body2, ho_body3, ho_body4, ho_meth, ho_bm, ho_prop, ho_if, hos_if, ho_disp, ho_and, ho_or, ho_andT, ho_orT, ho_ite, ho_chain, ret_d, ngW_b, blM_b, truM_b, getSl_0, getSl_s, lstM_d, tupM_d, add_ii, add_ss, sub_ii, mul_ii, fdiv_ii, mod_ii, pow_ii, lt_ii, le_ii, gt_ii, ge_ii, eq_ii, ne_ii, eq_ss, ne_ss, intM_i, lenM_t, ixM_t, seqV_s, seqV_t, partM_i, in_1, List.length_cons, List.length_nil, List.length_singleton, List.map_cons, List.map_nil, List.cons_append, List.nil_append, List.set_cons_zero, List.set_cons_succ, List.replicate_succ, List.replicate_zero, List.append_nil, Nat.reduceAdd, Nat.reduceSub, Nat.zero_add, Nat.sub_self, Nat.reduceEqDiff, Nat.reduceLeDiff, if_true, if_false, ite_true, ite_false, reduceIte, decide_true, decide_false, Bool.not_true, Bool.not_false, true_and, and_true])
  refine Ho.call (raised_recipe (z := 12) (P := fun S' => S1 <+: S') (fun _ _ p => p.trans pre1) ?_) ?_
  · try simp only [ho_ok, ho_ret, ho_bd, ho_bdI, ho_bdO, hos_nx, hos_rt, hos_bk, hos_ct, hos_onx, hos_ort, hos_exS, hos_exT, hos_exA, hos_exI, nxt_nx, nxt_rt, nxt_bk, nxt_ct, hos_asg, fin_nx, fin_rt, ho_body1, ho_body2, ho_body3, ho_body4, ho_meth, ho_bm, ho_prop, ho_if, hos_if, ho_disp, ho_and, ho_or, ho_andT, ho_orT, ho_ite, ho_chain, ret_d, ngW_b, blM_b, truM_b, getSl_0, getSl_s, lstM_d, tupM_d, add_ii, add_ss, sub_ii, mul_ii, fdiv_ii, mod_ii, pow_ii, lt_ii, le_ii, gt_ii, ge_ii, eq_ii, ne_ii, eq_ss, ne_ss, intM_i, lenM_t, ixM_t, seqV_s, seqV_t, partM_i, in_1, List.length_cons, List.length_nil, List.length_singleton, List.map_cons, List.map_nil, List.cons_append, List.nil_append, List.set_cons_zero, List.set_cons_succ, List.replicate_succ, List.replicate_zero, List.append_nil, Nat.reduceAdd, Nat.reduceSub, Nat.zero_add, Nat.sub_self, Nat.reduceEqDiff, Nat.reduceLeDiff, if_true, if_false, ite_true, ite_false, reduceIte, decide_true, decide_false, Bool.not_true, Bool.not_false, true_and, and_true]
    refine iso_x (c := 3) (n := 12) ?_ ⟨rfl, List.prefix_rfl⟩
    rcases ca with rfl | rfl | rfl | rfl | rfl | rfl | rfl | rfl | rfl | rfl | rfl | rfl <;> kernel_rfl
  rintro v S2 ⟨rfl, p2⟩
  have ne1 : ∀ S : Sto, pyNe (.tup [.str (Str.ofString "recipe"), .int 12]) (.tup [.str (Str.ofString "recipe"), .int 12]) S = .ok (.bl false) S := fun S => by
    have d1 : Dm 1 S (.tup ([true, false].map fun b => if b = true then W.str (Str.ofString "recipe") else .int 12)) (.tuple ([true, false].map fun b => if b = true then PyData.str (Str.ofString "recipe") else .int 12)) := Dm.tup fun b _ => by
      cases b
      · exact Dm.int _
      · exact Dm.str (by decide +kernel)
    exact Dm.sameN (d1.at9 (by omega)) (d1.at9 (by omega))
  have nei : ∀ (n : Int), decide (n = n) = true := fun n => decide_eq_true rfl
  have nes : ∀ (z : Str), decide (z = z) = true := fun n => decide_eq_true rfl
  have isn : ∀ S : Sto, pyIsNot .non .non S = .ok (.bl false) S := fun _ => rfl
  have eqt : ∀ S : Sto, pyEq (.tup []) (.tup []) S = .ok (.bl true) S := fun S => by
    have d1 : Dm 1 S (.tup (([] : List Unit).map fun _ => W.non)) (.tuple (([] : List Unit).map fun _ => PyData.int 0)) := Dm.tup fun b hb => by cases hb
    exact (d1.at9 (by omega)).same (d1.at9 (by omega))
  simp only [ho_ok, ho_ret, ho_bd, ho_bdI, ho_bdO, hos_nx, hos_rt, hos_bk, hos_ct, hos_onx, hos_ort, hos_exS, hos_exT, hos_exA, hos_exI, nxt_nx, nxt_rt, nxt_bk, nxt_ct, hos_asg, fin_nx, fin_rt, ho_body1, ho_body2, ho_body3, ho_body4, ho_meth, ho_bm, ho_prop, ho_if, hos_if, ho_disp, ho_and, ho_or, ho_andT, ho_orT, ho_ite, ho_chain, ret_d, ngW_b, blM_b, truM_b, getSl_0, getSl_s, lstM_d, tupM_d, add_ii, add_ss, sub_ii, mul_ii, fdiv_ii, mod_ii, pow_ii, lt_ii, le_ii, gt_ii, ge_ii, eq_ii, ne_ii, eq_ss, ne_ss, intM_i, lenM_t, ixM_t, seqV_s, seqV_t, partM_i, in_1, List.length_cons, List.length_nil, List.length_singleton, List.map_cons, List.map_nil, List.cons_append, List.nil_append, List.set_cons_zero, List.set_cons_succ, List.replicate_succ, List.replicate_zero, List.append_nil, Nat.reduceAdd, Nat.reduceSub, Nat.zero_add, Nat.sub_self, Nat.reduceEqDiff, Nat.reduceLeDiff, if_true, if_false, ite_true, ite_false, reduceIte, decide_true, decide_false, Bool.not_true, Bool.not_false, true_and, and_true, z2, ne1]
  (try rw [hos_seq]); (try simp only [ho_ok, ho_ret, ho_bd, ho_bdI, ho_bdO, hos_nx, hos_rt, hos_bk, hos_ct, hos_onx, hos_ort, hos_exS, hos_exT, hos_exA, hos_exI, nxt_nx, nxt_rt, nxt_bk, nxt_ct, hos_asg, fin_nx, fin_rt, ho_body1, ho_body2, ho_body3, ho_body4, ho_meth, ho_bm, ho_prop, ho_if, hos_if, ho_disp, ho_and, ho_or, ho_andT, ho_orT, ho_ite, ho_chain, ret_d, ngW_b, blM_b, truM_b, getSl_0, getSl_s, lstM_d, tupM_d, add_ii, add_ss, sub_ii, mul_ii, fdiv_ii, mod_ii, pow_ii, lt_ii, le_ii, gt_ii, ge_ii, eq_ii, ne_ii, eq_ss, ne_ss, intM_i, lenM_t, ixM_t, seqV_s, seqV_t, partM_i, in_1, List.length_cons, List.length_nil, List.length_singleton, List.map_cons, List.map_nil, List.cons_append, List.nil_append, List.set_cons_zero, List.set_cons_succ, List.replicate_succ, List.replicate_zero, List.append_nil, Nat.reduceAdd, Nat.reduceSub, Nat.zero_add, Nat.sub_self, Nat.reduceEqDiff, Nat.reduceLeDiff, if_true, if_false, ite_true, ite_false, reduceIte, decide_true, decide_false, Bool.not_true, Bool.not_false, true_and, and_true])
  refine iso_i (n := 5) (by kernel_rfl) ?_
  simp only [ho_ok, ho_ret, ho_bd, ho_bdI, ho_bdO, hos_nx, hos_rt, hos_bk, hos_ct, hos_onx, hos_ort, hos_exS, hos_exT, hos_exA, hos_exI, nxt_nx, nxt_rt, nxt_bk, nxt_ct, hos_asg, fin_nx, fin_rt, ho_body1, ho_body2, ho_body3, ho_body4, ho_meth, ho_bm, ho_prop, ho_if, hos_if, ho_disp, ho_and, ho_or, ho_andT, ho_orT, ho_ite, ho_chain, ret_d, ngW_b, blM_b, truM_b, getSl_0, getSl_s, lstM_d, tupM_d, add_ii, add_ss, sub_ii, mul_ii, fdiv_ii, mod_ii, pow_ii, lt_ii, le_ii, gt_ii, ge_ii, eq_ii, ne_ii, eq_ss, ne_ss, intM_i, lenM_t, ixM_t, seqV_s, seqV_t, partM_i, in_1, List.length_cons, List.length_nil, List.length_singleton, List.map_cons, List.map_nil, List.cons_append, List.nil_append, List.set_cons_zero, List.set_cons_succ, List.replicate_succ, List.replicate_zero, List.append_nil, Nat.reduceAdd, Nat.reduceSub, Nat.zero_add, Nat.sub_self, Nat.reduceEqDiff, Nat.reduceLeDiff, if_true, if_false, ite_true, ite_false, reduceIte, decide_true, decide_false, Bool.not_true, Bool.not_false, true_and, and_true, nei]
  (try rw [hos_seq]); (try simp only [ho_ok, ho_ret, ho_bd, ho_bdI, ho_bdO, hos_nx, hos_rt, hos_bk, hos_ct, hos_onx, hos_ort, hos_exS, hos_exT, hos_exA, hos_exI, nxt_nx, nxt_rt, nxt_bk, nxt_ct, hos_asg, fin_nx, fin_rt, ho_body1, ho_body2, ho_body3, ho_body4, ho_meth, ho_bm, ho_prop, ho_if, hos_if, ho_disp, ho_and, ho_or, ho_andT, ho_orT, ho_ite, ho_chain, ret_d, ngW_b, blM_b, truM_b, getSl_0, getSl_s, lstM_d, tupM_d, add_ii, add_ss, sub_ii, mul_ii, fdiv_ii, mod_ii, pow_ii, lt_ii, le_ii, gt_ii, ge_ii, eq_ii, ne_ii, eq_ss, ne_ss, intM_i, lenM_t, ixM_t, seqV_s, seqV_t, partM_i, in_1, List.length_cons, List.length_nil, List.length_singleton, List.map_cons, List.map_nil, List.cons_append, List.nil_append, List.set_cons_zero, List.set_cons_succ, List.replicate_succ, List.replicate_zero, List.append_nil, Nat.reduceAdd, Nat.reduceSub, Nat.zero_add, Nat.sub_self, Nat.reduceEqDiff, Nat.reduceLeDiff, if_true, if_false, ite_true, ite_false, reduceIte, decide_true, decide_false, Bool.not_true, Bool.not_false, true_and, and_true])
  refine iso_i (n := 6) (by kernel_rfl) ?_
  simp only [ho_ok, ho_ret, ho_bd, ho_bdI, ho_bdO, hos_nx, hos_rt, hos_bk, hos_ct, hos_onx, hos_ort, hos_exS, hos_exT, hos_exA, hos_exI, nxt_nx, nxt_rt, nxt_bk, nxt_ct, hos_asg, fin_nx, fin_rt, ho_body1, ho_body2, ho_body3, ho_body4, ho_meth, ho_bm, ho_prop, ho_if, hos_if, ho_disp, ho_and, ho_or, ho_andT, ho_orT, ho_ite, ho_chain, ret_d, ngW_b, blM_b, truM_b, getSl_0, getSl_s, lstM_d, tupM_d, add_ii, add_ss, sub_ii, mul_ii, fdiv_ii, mod_ii, pow_ii, lt_ii, le_ii, gt_ii, ge_ii, eq_ii, ne_ii, eq_ss, ne_ss, intM_i, lenM_t, ixM_t, seqV_s, seqV_t, partM_i, in_1, List.length_cons, List.length_nil, List.length_singleton, List.map_cons, List.map_nil, List.cons_append, List.nil_append, List.set_cons_zero, List.set_cons_succ, List.replicate_succ, List.replicate_zero, List.append_nil, Nat.reduceAdd, Nat.reduceSub, Nat.zero_add, Nat.sub_self, Nat.reduceEqDiff, Nat.reduceLeDiff, if_true, if_false, ite_true, ite_false, reduceIte, decide_true, decide_false, Bool.not_true, Bool.not_false, true_and, and_true, nei]
  (try rw [hos_seq]); (try simp only [ho_ok, ho_ret, ho_bd, ho_bdI, ho_bdO, hos_nx, hos_rt, hos_bk, hos_ct, hos_onx, hos_ort, hos_exS, hos_exT, hos_exA, hos_exI, nxt_nx, nxt_rt, nxt_bk, nxt_ct, hos_asg, fin_nx, fin_rt, ho_body1, ho_body2, ho_body3, ho_body4, ho_meth, ho_bm, ho_prop, ho_if, hos_if, ho_disp, ho_and, ho_or, ho_andT, ho_orT, ho_ite, ho_chain, ret_d, ngW_b, blM_b, truM_b, getSl_0, getSl_s, lstM_d, tupM_d, add_ii, add_ss, sub_ii, mul_ii, fdiv_ii, mod_ii, pow_ii, lt_ii, le_ii, gt_ii, ge_ii, eq_ii, ne_ii, eq_ss, ne_ss, intM_i, lenM_t, ixM_t, seqV_s, seqV_t, partM_i, in_1, List.length_cons, List.length_nil, List.length_singleton, List.map_cons, List.map_nil, List.cons_append, List.nil_append, List.set_cons_zero, List.set_cons_succ, List.replicate_succ, List.replicate_zero, List.append_nil, Nat.reduceAdd, Nat.reduceSub, Nat.zero_add, Nat.sub_self, Nat.reduceEqDiff, Nat.reduceLeDiff, if_true, if_false, ite_true, ite_false, reduceIte, decide_true, decide_false, Bool.not_true, Bool.not_false, true_and, and_true])
  refine iso_i (n := 20) (by kernel_rfl) ?_
  simp only [ho_ok, ho_ret, ho_bd, ho_bdI, ho_bdO, hos_nx, hos_rt, hos_bk, hos_ct, hos_onx, hos_ort, hos_exS, hos_exT, hos_exA, hos_exI, nxt_nx, nxt_rt, nxt_bk, nxt_ct, hos_asg, fin_nx, fin_rt, ho_body1, ho_body2, ho_body3, ho_body4, ho_meth, ho_bm, ho_prop, ho_if, hos_if, ho_disp, ho_and, ho_or, ho_andT, ho_orT, ho_ite, ho_chain, ret_d, ngW_b, blM_b, truM_b, getSl_0, getSl_s, lstM_d, tupM_d, add_ii, add_ss, sub_ii, mul_ii, fdiv_ii, mod_ii, pow_ii, lt_ii, le_ii, gt_ii, ge_ii, eq_ii, ne_ii, eq_ss, ne_ss, intM_i, lenM_t, ixM_t, seqV_s, seqV_t, partM_i, in_1, List.length_cons, List.length_nil, List.length_singleton, List.map_cons, List.map_nil, List.cons_append, List.nil_append, List.set_cons_zero, List.set_cons_succ, List.replicate_succ, List.replicate_zero, List.append_nil, Nat.reduceAdd, Nat.reduceSub, Nat.zero_add, Nat.sub_self, Nat.reduceEqDiff, Nat.reduceLeDiff, if_true, if_false, ite_true, ite_false, reduceIte, decide_true, decide_false, Bool.not_true, Bool.not_false, true_and, and_true, nei]
  (try rw [hos_seq]); (try simp only [ho_ok, ho_ret, ho_bd, ho_bdI, ho_bdO, hos_nx, hos_rt, hos_bk, hos_ct, hos_onx, hos_ort, hos_exS, hos_exT, hos_exA, hos_exI, nxt_nx, nxt_rt, nxt_bk, nxt_ct, hos_asg, fin_nx, fin_rt, ho_body1, ho_body2, ho_body3, ho_body4, ho_meth, ho_bm, ho_prop, ho_if, hos_if, ho_disp, ho_and, ho_or, ho_andT, ho_orT, ho_ite, ho_chain, ret_d, ngW_b, blM_b, truM_b, getSl_0, getSl_s, lstM_d, tupM_d, add_ii, add_ss, sub_ii, mul_ii, fdiv_ii, mod_ii, pow_ii, lt_ii, le_ii, gt_ii, ge_ii, eq_ii, ne_ii, eq_ss, ne_ss, intM_i, lenM_t, ixM_t, seqV_s, seqV_t, partM_i, in_1, List.length_cons, List.length_nil, List.length_singleton, List.map_cons, List.map_nil, List.cons_append, List.nil_append, List.set_cons_zero, List.set_cons_succ, List.replicate_succ, List.replicate_zero, List.append_nil, Nat.reduceAdd, Nat.reduceSub, Nat.zero_add, Nat.sub_self, Nat.reduceEqDiff, Nat.reduceLeDiff, if_true, if_false, ite_true, ite_false, reduceIte, decide_true, decide_false, Bool.not_true, Bool.not_false, true_and, and_true])
  refine iso_s (z := Str.ofString "aa") (by kernel_rfl) ?_
  simp only [ho_ok, ho_ret, ho_bd, ho_bdI, ho_bdO, hos_nx, hos_rt, hos_bk, hos_ct, hos_onx, hos_ort, hos_exS, hos_exT, hos_exA, hos_exI, nxt_nx, nxt_rt, nxt_bk, nxt_ct, hos_asg, fin_nx, fin_rt, ho_body1, ho_body2, ho_body3, ho_body4, ho_meth, ho_bm, ho_prop, ho_if, hos_if, ho_disp, ho_and, ho_or, ho_andT, ho_orT, ho_ite, ho_chain, ret_d, ngW_b, blM_b, truM_b, getSl_0, getSl_s, lstM_d, tupM_d, add_ii, add_ss, sub_ii, mul_ii, fdiv_ii, mod_ii, pow_ii, lt_ii, le_ii, gt_ii, ge_ii, eq_ii, ne_ii, eq_ss, ne_ss, intM_i, lenM_t, ixM_t, seqV_s, seqV_t, partM_i, in_1, List.length_cons, List.length_nil, List.length_singleton, List.map_cons, List.map_nil, List.cons_append, List.nil_append, List.set_cons_zero, List.set_cons_succ, List.replicate_succ, List.replicate_zero, List.append_nil, Nat.reduceAdd, Nat.reduceSub, Nat.zero_add, Nat.sub_self, Nat.reduceEqDiff, Nat.reduceLeDiff, if_true, if_false, ite_true, ite_false, reduceIte, decide_true, decide_false, Bool.not_true, Bool.not_false, true_and, and_true, nes]
  (try rw [hos_seq]); (try simp only [ho_ok, ho_ret, ho_bd, ho_bdI, ho_bdO, hos_nx, hos_rt, hos_bk, hos_ct, hos_onx, hos_ort, hos_exS, hos_exT, hos_exA, hos_exI, nxt_nx, nxt_rt, nxt_bk, nxt_ct, hos_asg, fin_nx, fin_rt, ho_body1, ho_body2, ho_body3, ho_body4, ho_meth, ho_bm, ho_prop, ho_if, hos_if, ho_disp, ho_and, ho_or, ho_andT, ho_orT, ho_ite, ho_chain, ret_d, ngW_b, blM_b, truM_b, getSl_0, getSl_s, lstM_d, tupM_d, add_ii, add_ss, sub_ii, mul_ii, fdiv_ii, mod_ii, pow_ii, lt_ii, le_ii, gt_ii, ge_ii, eq_ii, ne_ii, eq_ss, ne_ss, intM_i, lenM_t, ixM_t, seqV_s, seqV_t, partM_i, in_1, List.length_cons, List.length_nil, List.length_singleton, List.map_cons, List.map_nil, List.cons_append, List.nil_append, List.set_cons_zero, List.set_cons_succ, List.replicate_succ, List.replicate_zero, List.append_nil, Nat.reduceAdd, Nat.reduceSub, Nat.zero_add, Nat.sub_self, Nat.reduceEqDiff, Nat.reduceLeDiff, if_true, if_false, ite_true, ite_false, reduceIte, decide_true, decide_false, Bool.not_true, Bool.not_false, true_and, and_true])
  refine iso_b (b := true) ?_ ?_
  · rcases ca with rfl | rfl | rfl | rfl | rfl | rfl | rfl | rfl | rfl | rfl | rfl | rfl <;> kernel_rfl
  try simp only [ho_ok, ho_ret, ho_bd, ho_bdI, ho_bdO, hos_nx, hos_rt, hos_bk, hos_ct, hos_onx, hos_ort, hos_exS, hos_exT, hos_exA, hos_exI, nxt_nx, nxt_rt, nxt_bk, nxt_ct, hos_asg, fin_nx, fin_rt, ho_body1, ho_body2, ho_body3, ho_body4, ho_meth, ho_bm, ho_prop, ho_if, hos_if, ho_disp, ho_and, ho_or, ho_andT, ho_orT, ho_ite, ho_chain, ret_d, ngW_b, blM_b, truM_b, getSl_0, getSl_s, lstM_d, tupM_d, add_ii, add_ss, sub_ii, mul_ii, fdiv_ii, mod_ii, pow_ii, lt_ii, le_ii, gt_ii, ge_ii, eq_ii, ne_ii, eq_ss, ne_ss, intM_i, lenM_t, ixM_t, seqV_s, seqV_t, partM_i, in_1, List.length_cons, List.length_nil, List.length_singleton, List.map_cons, List.map_nil, List.cons_append, List.nil_append, List.set_cons_zero, List.set_cons_succ, List.replicate_succ, List.replicate_zero, List.append_nil, Nat.reduceAdd, Nat.reduceSub, Nat.zero_add, Nat.sub_self, Nat.reduceEqDiff, Nat.reduceLeDiff, if_true, if_false, ite_true, ite_false, reduceIte, decide_true, decide_false, Bool.not_true, Bool.not_false, true_and, and_true]
  (try rw [hos_seq]); (try simp only [ho_ok, ho_ret, ho_bd, ho_bdI, ho_bdO, hos_nx, hos_rt, hos_bk, hos_ct, hos_onx, hos_ort, hos_exS, hos_exT, hos_exA, hos_exI, nxt_nx, nxt_rt, nxt_bk, nxt_ct, hos_asg, fin_nx, fin_rt, ho_body1, ho_body2, ho_body3, ho_body4, ho_meth, ho_bm, ho_prop, ho_if, hos_if, ho_disp, ho_and, ho_or, ho_andT, ho_orT, ho_ite, ho_chain, ret_d, ngW_b, blM_b, truM_b, getSl_0, getSl_s, lstM_d, tupM_d, add_ii, add_ss, sub_ii, mul_ii, fdiv_ii, mod_ii, pow_ii, lt_ii, le_ii, gt_ii, ge_ii, eq_ii, ne_ii, eq_ss, ne_ss, intM_i, lenM_t, ixM_t, seqV_s, seqV_t, partM_i, in_1, List.length_cons, List.length_nil, List.length_singleton, List.map_cons, List.map_nil, List.cons_append, List.nil_append, List.set_cons_zero, List.set_cons_succ, List.replicate_succ, List.replicate_zero, List.append_nil, Nat.reduceAdd, Nat.reduceSub, Nat.zero_add, Nat.sub_self, Nat.reduceEqDiff, Nat.reduceLeDiff, if_true, if_false, ite_true, ite_false, reduceIte, decide_true, decide_false, Bool.not_true, Bool.not_false, true_and, and_true])
  refine iso_s (z := Str.ofString "aa") (by kernel_rfl) ?_
  simp only [ho_ok, ho_ret, ho_bd, ho_bdI, ho_bdO, hos_nx, hos_rt, hos_bk, hos_ct, hos_onx, hos_ort, hos_exS, hos_exT, hos_exA, hos_exI, nxt_nx, nxt_rt, nxt_bk, nxt_ct, hos_asg, fin_nx, fin_rt, ho_body1, ho_body2, ho_body3, ho_body4, ho_meth, ho_bm, ho_prop, ho_if, hos_if, ho_disp, ho_and, ho_or, ho_andT, ho_orT, ho_ite, ho_chain, ret_d, ngW_b, blM_b, truM_b, getSl_0, getSl_s, lstM_d, tupM_d, add_ii, add_ss, sub_ii, mul_ii, fdiv_ii, mod_ii, pow_ii, lt_ii, le_ii, gt_ii, ge_ii, eq_ii, ne_ii, eq_ss, ne_ss, intM_i, lenM_t, ixM_t, seqV_s, seqV_t, partM_i, in_1, List.length_cons, List.length_nil, List.length_singleton, List.map_cons, List.map_nil, List.cons_append, List.nil_append, List.set_cons_zero, List.set_cons_succ, List.replicate_succ, List.replicate_zero, List.append_nil, Nat.reduceAdd, Nat.reduceSub, Nat.zero_add, Nat.sub_self, Nat.reduceEqDiff, Nat.reduceLeDiff, if_true, if_false, ite_true, ite_false, reduceIte, decide_true, decide_false, Bool.not_true, Bool.not_false, true_and, and_true, nes]
  (try rw [hos_seq]); (try simp only [ho_ok, ho_ret, ho_bd, ho_bdI, ho_bdO, hos_nx, hos_rt, hos_bk, hos_ct, hos_onx, hos_ort, hos_exS, hos_exT, hos_exA, hos_exI, nxt_nx, nxt_rt, nxt_bk, nxt_ct, hos_asg, fin_nx, fin_rt, ho_body1, ho_body2, ho_body3, ho_body4, ho_meth, ho_bm, ho_prop, ho_if, hos_if, ho_disp, ho_and, ho_or, ho_andT, ho_orT, ho_ite, ho_chain, ret_d, ngW_b, blM_b, truM_b, getSl_0, getSl_s, lstM_d, tupM_d, add_ii, add_ss, sub_ii, mul_ii, fdiv_ii, mod_ii, pow_ii, lt_ii, le_ii, gt_ii, ge_ii, eq_ii, ne_ii, eq_ss, ne_ss, intM_i, lenM_t, ixM_t, seqV_s, seqV_t, partM_i, in_1, List.length_cons, List.length_nil, List.length_singleton, List.map_cons, List.map_nil, List.cons_append, List.nil_append, List.set_cons_zero, List.set_cons_succ, List.replicate_succ, List.replicate_zero, List.append_nil, Nat.reduceAdd, Nat.reduceSub, Nat.zero_add, Nat.sub_self, Nat.reduceEqDiff, Nat.reduceLeDiff, if_true, if_false, ite_true, ite_false, reduceIte, decide_true, decide_false, Bool.not_true, Bool.not_false, true_and, and_true])
  refine iso_n (by kernel_rfl) ?_
  simp only [ho_ok, ho_ret, ho_bd, ho_bdI, ho_bdO, hos_nx, hos_rt, hos_bk, hos_ct, hos_onx, hos_ort, hos_exS, hos_exT, hos_exA, hos_exI, nxt_nx, nxt_rt, nxt_bk, nxt_ct, hos_asg, fin_nx, fin_rt, ho_body1, ho_body2, ho_body3, ho_body4, ho_meth, ho_bm, ho_prop, ho_if, hos_if, ho_disp, ho_and, ho_or, ho_andT, ho_orT, ho_ite, ho_chain, ret_d, ngW_b, blM_b, truM_b, getSl_0, getSl_s, lstM_d, tupM_d, add_ii, add_ss, sub_ii, mul_ii, fdiv_ii, mod_ii, pow_ii, lt_ii, le_ii, gt_ii, ge_ii, eq_ii, ne_ii, eq_ss, ne_ss, intM_i, lenM_t, ixM_t, seqV_s, seqV_t, partM_i, in_1, List.length_cons, List.length_nil, List.length_singleton, List.map_cons, List.map_nil, List.cons_append, List.nil_append, List.set_cons_zero, List.set_cons_succ, List.replicate_succ, List.replicate_zero, List.append_nil, Nat.reduceAdd, Nat.reduceSub, Nat.zero_add, Nat.sub_self, Nat.reduceEqDiff, Nat.reduceLeDiff, if_true, if_false, ite_true, ite_false, reduceIte, decide_true, decide_false, Bool.not_true, Bool.not_false, true_and, and_true, isn]
  try simp only [ho_ok, ho_ret, ho_bd, ho_bdI, ho_bdO, hos_nx, hos_rt, hos_bk, hos_ct, hos_onx, hos_ort, hos_exS, hos_exT, hos_exA, hos_exI, nxt_nx, nxt_rt, nxt_bk, nxt_ct, hos_asg, fin_nx, fin_rt, ho_body1, ho_body2, ho_body3, ho_body4, ho_meth, ho_bm, ho_prop, ho_if, hos_if, ho_disp, ho_and, ho_or, ho_andT, ho_orT, ho_ite, ho_chain, ret_d, ngW_b, blM_b, truM_b, getSl_0, getSl_s, lstM_d, tupM_d, add_ii, add_ss, sub_ii, mul_ii, fdiv_ii, mod_ii, pow_ii, lt_ii, le_ii, gt_ii, ge_ii, eq_ii, ne_ii, eq_ss, ne_ss, intM_i, lenM_t, ixM_t, seqV_s, seqV_t, partM_i, in_1, List.length_cons, List.length_nil, List.length_singleton, List.map_cons, List.map_nil, List.cons_append, List.nil_append, List.set_cons_zero, List.set_cons_succ, List.replicate_succ, List.replicate_zero, List.append_nil, Nat.reduceAdd, Nat.reduceSub, Nat.zero_add, Nat.sub_self, Nat.reduceEqDiff, Nat.reduceLeDiff, if_true, if_false, ite_true, ite_false, reduceIte, decide_true, decide_false, Bool.not_true, Bool.not_false, true_and, and_true]
  refine iso_s (z := Str.ofString "a?") (by kernel_rfl) ?_
  simp only [ho_ok, ho_ret, ho_bd, ho_bdI, ho_bdO, hos_nx, hos_rt, hos_bk, hos_ct, hos_onx, hos_ort, hos_exS, hos_exT, hos_exA, hos_exI, nxt_nx, nxt_rt, nxt_bk, nxt_ct, hos_asg, fin_nx, fin_rt, ho_body1, ho_body2, ho_body3, ho_body4, ho_meth, ho_bm, ho_prop, ho_if, hos_if, ho_disp, ho_and, ho_or, ho_andT, ho_orT, ho_ite, ho_chain, ret_d, ngW_b, blM_b, truM_b, getSl_0, getSl_s, lstM_d, tupM_d, add_ii, add_ss, sub_ii, mul_ii, fdiv_ii, mod_ii, pow_ii, lt_ii, le_ii, gt_ii, ge_ii, eq_ii, ne_ii, eq_ss, ne_ss, intM_i, lenM_t, ixM_t, seqV_s, seqV_t, partM_i, in_1, List.length_cons, List.length_nil, List.length_singleton, List.map_cons, List.map_nil, List.cons_append, List.nil_append, List.set_cons_zero, List.set_cons_succ, List.replicate_succ, List.replicate_zero, List.append_nil, Nat.reduceAdd, Nat.reduceSub, Nat.zero_add, Nat.sub_self, Nat.reduceEqDiff, Nat.reduceLeDiff, if_true, if_false, ite_true, ite_false, reduceIte, decide_true, decide_false, Bool.not_true, Bool.not_false, true_and, and_true, nes]
  refine iso_t0 (by kernel_rfl) ?_
  simp only [ho_ok, ho_ret, ho_bd, ho_bdI, ho_bdO, hos_nx, hos_rt, hos_bk, hos_ct, hos_onx, hos_ort, hos_exS, hos_exT, hos_exA, hos_exI, nxt_nx, nxt_rt, nxt_bk, nxt_ct, hos_asg, fin_nx, fin_rt, ho_body1, ho_body2, ho_body3, ho_body4, ho_meth, ho_bm, ho_prop, ho_if, hos_if, ho_disp, ho_and, ho_or, ho_andT, ho_orT, ho_ite, ho_chain, ret_d, ngW_b, blM_b, truM_b, getSl_0, getSl_s, lstM_d, tupM_d, add_ii, add_ss, sub_ii, mul_ii, fdiv_ii, mod_ii, pow_ii, lt_ii, le_ii, gt_ii, ge_ii, eq_ii, ne_ii, eq_ss, ne_ss, intM_i, lenM_t, ixM_t, seqV_s, seqV_t, partM_i, in_1, List.length_cons, List.length_nil, List.length_singleton, List.map_cons, List.map_nil, List.cons_append, List.nil_append, List.set_cons_zero, List.set_cons_succ, List.replicate_succ, List.replicate_zero, List.append_nil, Nat.reduceAdd, Nat.reduceSub, Nat.zero_add, Nat.sub_self, Nat.reduceEqDiff, Nat.reduceLeDiff, if_true, if_false, ite_true, ite_false, reduceIte, decide_true, decide_false, Bool.not_true, Bool.not_false, true_and, and_true, z0, eqt]
end Lw


namespace Lw
open PySem L2 RP
theorem exm_own {K : PySem.W.Frag} {C : Addr} {cls : Value} {b : Bool} (h1 : PySem.W.subIn K (.ref C) (.type "BaseException") = some true) (h2 : PySem.W.isClsIn K C = true) (h3 : PySem.W.typeIn K (.ref C) = some (.type "type")) (h4 : PySem.W.subIn K cls (.ref C) = some b) : PySem.W.exmOne K cls (.ref C) = some b := by
  have e1 : (PySem.W.subIn K (.ref C) (.type "BaseException") == some true) = true := by rw [h1] <;> rfl
  have e2 : ((PySem.W.clsIn K C).isSome && PySem.W.typeIn K (.ref C) == some (.type "type")) = true := by
    have h2' : (PySem.W.clsIn K C).isSome = true := h2
    rw [h2', h3] <;> rfl
  show (if (PySem.W.subIn K (.ref C) (.type "BaseException") == some true) = true then (if ((PySem.W.clsIn K C).isSome && PySem.W.typeIn K (.ref C) == some (.type "type")) = true then PySem.W.subIn K cls (.ref C) else none) else none) = some b
  rw [if_pos e1, if_pos e2]
  exact h4
set_option maxHeartbeats 4000000 in
theorem all_mk {P : Program} {w : World} {KB : PySem.W.Frag} {h : Heap} {mg : Str → Option Value} {fa : Addr} (X : KB.In h) (Gn : h.Ns mainGlobals mg) (hfa : mg "law" = some (.ref fa))
    {c_BathError : Addr}
    {c_InvalidBath : Addr}
    {c_InvalidSize : Addr}
    {c_InvalidRecipe : Addr}
    {c_UnknownCell : Addr}
    {c_InvalidSign : Addr}
    {c_InvalidDeed : Addr}
    {c_InvalidCells : Addr}
    {c_InvalidNumber : Addr}
    {c_TooMany : Addr}
    {c_InvalidColours : Addr}
    {c_NoDrop : Addr}
    {c_InvalidPapers : Addr}
    {c_Bath : Addr}
    {c_Tray : Addr}
    {c_Rounds : Addr}
    {f_InvalidRecipeD_initD : Addr}
    {f_is_number : Addr}
    {f_is_letter : Addr}
    {f_are_signs : Addr}
    {f_is_size : Addr}
    {f_check_size : Addr}
    {f_BathD_initD : Addr}
    {f_Bath_width : Addr}
    {f_Bath_height : Addr}
    {f_Bath_cells : Addr}
    {f_BathD_lenD : Addr}
    {f_BathD_eqD : Addr}
    {f_are_strides : Addr}
    {f_are_cells : Addr}
    {f_is_draw : Addr}
    {f_is_deed : Addr}
    {f_check_recipe : Addr}
    {f_drawn : Addr}
    {f_pushed : Addr}
    {f_TrayD_initD : Addr}
    {f_Tray_do : Addr}
    {f_all_steps : Addr}
    {f_done : Addr}
    {f_check_cell : Addr}
    {f_ahead_of : Addr}
    {f_last_drops : Addr}
    {f_check_colours : Addr}
    {f_known_ahead : Addr}
    {f_fits : Addr}
    {f_ahead_count : Addr}
    {f_first_ahead : Addr}
    {f_RoundsD_initD : Addr}
    {f_Rounds_at : Addr}
    {f_period : Addr}
    {f_check_few : Addr}
    {f_check_cells : Addr}
    {f_all_strides : Addr}
    {f_all_draws : Addr}
    {f_draw_levels : Addr}
    {f_draw_count : Addr}
    {f_fewest_draws : Addr}
    {f_check_drops : Addr}
    {f_dropped : Addr}
    {f_first_way : Addr}
    {f_first_drops : Addr}
    {f_fewest_drops : Addr}
    {f_choices : Addr}
    {f_colourings : Addr}
    {f_recipes_of_drops : Addr}
    {f_origins_of : Addr}
    {f_sources : Addr}
    {f_copies_of : Addr}
    {f_lost : Addr}
    {f_shown : Addr}
    {f_outcome : Addr}
    {f_check_two : Addr}
    {f_are_alike : Addr}
    {f_alike : Addr}
    {f_texts : Addr}
    {f_parting_bath : Addr}
    {f_check_papers : Addr}
    {f_told : Addr}
    {f_plain : Addr}
    {f_turned_back : Addr}
    {f_short : Addr}
    {f_shortened : Addr}
    {f_undoing : Addr}
    {f__law_taken : Addr}
    {f__law_raised : Addr}
    {f__law_one : Addr}
    {f__law_cross : Addr}
    {f_law : Addr}
    {cc_law tp_law : Addr} {odd_law : Option Addr} {vsc_law : Array Value} {osc_law : Array (Option Value)}
    {p_Bath_width : Addr} {rest_Bath_width : List Value}
    {p_Bath_height : Addr} {rest_Bath_height : List Value}
    {p_Bath_cells : Addr} {rest_Bath_cells : List Value}
    {s_Bath_parts : Addr}
    {od_InvalidRecipeD_initD an_InvalidRecipeD_initD : Option Addr} {sl_InvalidRecipeD_initD : Array (Option Value)} {oc_InvalidRecipeD_initD kV_InvalidRecipeD_initD dc_InvalidRecipeD_initD pm_InvalidRecipeD_initD cd_InvalidRecipeD_initD ct_InvalidRecipeD_initD : Value}
    {od_is_number an_is_number : Option Addr} {sl_is_number : Array (Option Value)} {oc_is_number kV_is_number dc_is_number pm_is_number cd_is_number ct_is_number : Value}
    {od_is_letter an_is_letter : Option Addr} {sl_is_letter : Array (Option Value)} {oc_is_letter kV_is_letter dc_is_letter pm_is_letter cd_is_letter ct_is_letter : Value}
    {od_are_signs an_are_signs : Option Addr} {sl_are_signs : Array (Option Value)} {oc_are_signs kV_are_signs dc_are_signs pm_are_signs cd_are_signs ct_are_signs : Value}
    {od_is_size an_is_size : Option Addr} {sl_is_size : Array (Option Value)} {oc_is_size kV_is_size dc_is_size pm_is_size cd_is_size ct_is_size : Value}
    {od_check_size an_check_size : Option Addr} {sl_check_size : Array (Option Value)} {oc_check_size kV_check_size dc_check_size pm_check_size cd_check_size ct_check_size : Value}
    {od_BathD_initD an_BathD_initD : Option Addr} {sl_BathD_initD : Array (Option Value)} {oc_BathD_initD kV_BathD_initD dc_BathD_initD pm_BathD_initD cd_BathD_initD ct_BathD_initD : Value}
    {od_Bath_width an_Bath_width : Option Addr} {sl_Bath_width : Array (Option Value)} {oc_Bath_width kV_Bath_width dc_Bath_width pm_Bath_width cd_Bath_width ct_Bath_width : Value}
    {od_Bath_height an_Bath_height : Option Addr} {sl_Bath_height : Array (Option Value)} {oc_Bath_height kV_Bath_height dc_Bath_height pm_Bath_height cd_Bath_height ct_Bath_height : Value}
    {od_Bath_cells an_Bath_cells : Option Addr} {sl_Bath_cells : Array (Option Value)} {oc_Bath_cells kV_Bath_cells dc_Bath_cells pm_Bath_cells cd_Bath_cells ct_Bath_cells : Value}
    {od_BathD_lenD an_BathD_lenD : Option Addr} {sl_BathD_lenD : Array (Option Value)} {oc_BathD_lenD kV_BathD_lenD dc_BathD_lenD pm_BathD_lenD cd_BathD_lenD ct_BathD_lenD : Value}
    {od_BathD_eqD an_BathD_eqD : Option Addr} {sl_BathD_eqD : Array (Option Value)} {oc_BathD_eqD kV_BathD_eqD dc_BathD_eqD pm_BathD_eqD cd_BathD_eqD ct_BathD_eqD : Value}
    {od_are_strides an_are_strides : Option Addr} {sl_are_strides : Array (Option Value)} {oc_are_strides kV_are_strides dc_are_strides pm_are_strides cd_are_strides ct_are_strides : Value}
    {od_are_cells an_are_cells : Option Addr} {sl_are_cells : Array (Option Value)} {oc_are_cells kV_are_cells dc_are_cells pm_are_cells cd_are_cells ct_are_cells : Value}
    {od_is_draw an_is_draw : Option Addr} {sl_is_draw : Array (Option Value)} {oc_is_draw kV_is_draw dc_is_draw pm_is_draw cd_is_draw ct_is_draw : Value}
    {od_is_deed an_is_deed : Option Addr} {sl_is_deed : Array (Option Value)} {oc_is_deed kV_is_deed dc_is_deed pm_is_deed cd_is_deed ct_is_deed : Value}
    {od_check_recipe an_check_recipe : Option Addr} {sl_check_recipe : Array (Option Value)} {oc_check_recipe kV_check_recipe dc_check_recipe pm_check_recipe cd_check_recipe ct_check_recipe : Value}
    {od_drawn an_drawn : Option Addr} {sl_drawn : Array (Option Value)} {oc_drawn kV_drawn dc_drawn pm_drawn cd_drawn ct_drawn : Value}
    {od_pushed an_pushed : Option Addr} {sl_pushed : Array (Option Value)} {oc_pushed kV_pushed dc_pushed pm_pushed cd_pushed ct_pushed : Value}
    {od_TrayD_initD an_TrayD_initD : Option Addr} {sl_TrayD_initD : Array (Option Value)} {oc_TrayD_initD kV_TrayD_initD dc_TrayD_initD pm_TrayD_initD cd_TrayD_initD ct_TrayD_initD : Value}
    {od_Tray_do an_Tray_do : Option Addr} {sl_Tray_do : Array (Option Value)} {oc_Tray_do kV_Tray_do dc_Tray_do pm_Tray_do cd_Tray_do ct_Tray_do : Value}
    {od_all_steps an_all_steps : Option Addr} {sl_all_steps : Array (Option Value)} {oc_all_steps kV_all_steps dc_all_steps pm_all_steps cd_all_steps ct_all_steps : Value}
    {od_done an_done : Option Addr} {sl_done : Array (Option Value)} {oc_done kV_done dc_done pm_done cd_done ct_done : Value}
    {od_check_cell an_check_cell : Option Addr} {sl_check_cell : Array (Option Value)} {oc_check_cell kV_check_cell dc_check_cell pm_check_cell cd_check_cell ct_check_cell : Value}
    {od_ahead_of an_ahead_of : Option Addr} {sl_ahead_of : Array (Option Value)} {oc_ahead_of kV_ahead_of dc_ahead_of pm_ahead_of cd_ahead_of ct_ahead_of : Value}
    {od_last_drops an_last_drops : Option Addr} {sl_last_drops : Array (Option Value)} {oc_last_drops kV_last_drops dc_last_drops pm_last_drops cd_last_drops ct_last_drops : Value}
    {od_check_colours an_check_colours : Option Addr} {sl_check_colours : Array (Option Value)} {oc_check_colours kV_check_colours dc_check_colours pm_check_colours cd_check_colours ct_check_colours : Value}
    {od_known_ahead an_known_ahead : Option Addr} {sl_known_ahead : Array (Option Value)} {oc_known_ahead kV_known_ahead dc_known_ahead pm_known_ahead cd_known_ahead ct_known_ahead : Value}
    {od_fits an_fits : Option Addr} {sl_fits : Array (Option Value)} {oc_fits kV_fits dc_fits pm_fits cd_fits ct_fits : Value}
    {od_ahead_count an_ahead_count : Option Addr} {sl_ahead_count : Array (Option Value)} {oc_ahead_count kV_ahead_count dc_ahead_count pm_ahead_count cd_ahead_count ct_ahead_count : Value}
    {od_first_ahead an_first_ahead : Option Addr} {sl_first_ahead : Array (Option Value)} {oc_first_ahead kV_first_ahead dc_first_ahead pm_first_ahead cd_first_ahead ct_first_ahead : Value}
    {od_RoundsD_initD an_RoundsD_initD : Option Addr} {sl_RoundsD_initD : Array (Option Value)} {oc_RoundsD_initD kV_RoundsD_initD dc_RoundsD_initD pm_RoundsD_initD cd_RoundsD_initD ct_RoundsD_initD : Value}
    {od_Rounds_at an_Rounds_at : Option Addr} {sl_Rounds_at : Array (Option Value)} {oc_Rounds_at kV_Rounds_at dc_Rounds_at pm_Rounds_at cd_Rounds_at ct_Rounds_at : Value}
    {od_period an_period : Option Addr} {sl_period : Array (Option Value)} {oc_period kV_period dc_period pm_period cd_period ct_period : Value}
    {od_check_few an_check_few : Option Addr} {sl_check_few : Array (Option Value)} {oc_check_few kV_check_few dc_check_few pm_check_few cd_check_few ct_check_few : Value}
    {od_check_cells an_check_cells : Option Addr} {sl_check_cells : Array (Option Value)} {oc_check_cells kV_check_cells dc_check_cells pm_check_cells cd_check_cells ct_check_cells : Value}
    {od_all_strides an_all_strides : Option Addr} {sl_all_strides : Array (Option Value)} {oc_all_strides kV_all_strides dc_all_strides pm_all_strides cd_all_strides ct_all_strides : Value}
    {od_all_draws an_all_draws : Option Addr} {sl_all_draws : Array (Option Value)} {oc_all_draws kV_all_draws dc_all_draws pm_all_draws cd_all_draws ct_all_draws : Value}
    {od_draw_levels an_draw_levels : Option Addr} {sl_draw_levels : Array (Option Value)} {oc_draw_levels kV_draw_levels dc_draw_levels pm_draw_levels cd_draw_levels ct_draw_levels : Value}
    {od_draw_count an_draw_count : Option Addr} {sl_draw_count : Array (Option Value)} {oc_draw_count kV_draw_count dc_draw_count pm_draw_count cd_draw_count ct_draw_count : Value}
    {od_fewest_draws an_fewest_draws : Option Addr} {sl_fewest_draws : Array (Option Value)} {oc_fewest_draws kV_fewest_draws dc_fewest_draws pm_fewest_draws cd_fewest_draws ct_fewest_draws : Value}
    {od_check_drops an_check_drops : Option Addr} {sl_check_drops : Array (Option Value)} {oc_check_drops kV_check_drops dc_check_drops pm_check_drops cd_check_drops ct_check_drops : Value}
    {od_dropped an_dropped : Option Addr} {sl_dropped : Array (Option Value)} {oc_dropped kV_dropped dc_dropped pm_dropped cd_dropped ct_dropped : Value}
    {od_first_way an_first_way : Option Addr} {sl_first_way : Array (Option Value)} {oc_first_way kV_first_way dc_first_way pm_first_way cd_first_way ct_first_way : Value}
    {od_first_drops an_first_drops : Option Addr} {sl_first_drops : Array (Option Value)} {oc_first_drops kV_first_drops dc_first_drops pm_first_drops cd_first_drops ct_first_drops : Value}
    {od_fewest_drops an_fewest_drops : Option Addr} {sl_fewest_drops : Array (Option Value)} {oc_fewest_drops kV_fewest_drops dc_fewest_drops pm_fewest_drops cd_fewest_drops ct_fewest_drops : Value}
    {od_choices an_choices : Option Addr} {sl_choices : Array (Option Value)} {oc_choices kV_choices dc_choices pm_choices cd_choices ct_choices : Value}
    {od_colourings an_colourings : Option Addr} {sl_colourings : Array (Option Value)} {oc_colourings kV_colourings dc_colourings pm_colourings cd_colourings ct_colourings : Value}
    {od_recipes_of_drops an_recipes_of_drops : Option Addr} {sl_recipes_of_drops : Array (Option Value)} {oc_recipes_of_drops kV_recipes_of_drops dc_recipes_of_drops pm_recipes_of_drops cd_recipes_of_drops ct_recipes_of_drops : Value}
    {od_origins_of an_origins_of : Option Addr} {sl_origins_of : Array (Option Value)} {oc_origins_of kV_origins_of dc_origins_of pm_origins_of cd_origins_of ct_origins_of : Value}
    {od_sources an_sources : Option Addr} {sl_sources : Array (Option Value)} {oc_sources kV_sources dc_sources pm_sources cd_sources ct_sources : Value}
    {od_copies_of an_copies_of : Option Addr} {sl_copies_of : Array (Option Value)} {oc_copies_of kV_copies_of dc_copies_of pm_copies_of cd_copies_of ct_copies_of : Value}
    {od_lost an_lost : Option Addr} {sl_lost : Array (Option Value)} {oc_lost kV_lost dc_lost pm_lost cd_lost ct_lost : Value}
    {od_shown an_shown : Option Addr} {sl_shown : Array (Option Value)} {oc_shown kV_shown dc_shown pm_shown cd_shown ct_shown : Value}
    {od_outcome an_outcome : Option Addr} {sl_outcome : Array (Option Value)} {oc_outcome kV_outcome dc_outcome pm_outcome cd_outcome ct_outcome : Value}
    {od_check_two an_check_two : Option Addr} {sl_check_two : Array (Option Value)} {oc_check_two kV_check_two dc_check_two pm_check_two cd_check_two ct_check_two : Value}
    {od_are_alike an_are_alike : Option Addr} {sl_are_alike : Array (Option Value)} {oc_are_alike kV_are_alike dc_are_alike pm_are_alike cd_are_alike ct_are_alike : Value}
    {od_alike an_alike : Option Addr} {sl_alike : Array (Option Value)} {oc_alike kV_alike dc_alike pm_alike cd_alike ct_alike : Value}
    {od_texts an_texts : Option Addr} {sl_texts : Array (Option Value)} {oc_texts kV_texts dc_texts pm_texts cd_texts ct_texts : Value}
    {od_parting_bath an_parting_bath : Option Addr} {sl_parting_bath : Array (Option Value)} {oc_parting_bath kV_parting_bath dc_parting_bath pm_parting_bath cd_parting_bath ct_parting_bath : Value}
    {od_check_papers an_check_papers : Option Addr} {sl_check_papers : Array (Option Value)} {oc_check_papers kV_check_papers dc_check_papers pm_check_papers cd_check_papers ct_check_papers : Value}
    {od_told an_told : Option Addr} {sl_told : Array (Option Value)} {oc_told kV_told dc_told pm_told cd_told ct_told : Value}
    {od_plain an_plain : Option Addr} {sl_plain : Array (Option Value)} {oc_plain kV_plain dc_plain pm_plain cd_plain ct_plain : Value}
    {od_turned_back an_turned_back : Option Addr} {sl_turned_back : Array (Option Value)} {oc_turned_back kV_turned_back dc_turned_back pm_turned_back cd_turned_back ct_turned_back : Value}
    {od_short an_short : Option Addr} {sl_short : Array (Option Value)} {oc_short kV_short dc_short pm_short cd_short ct_short : Value}
    {od_shortened an_shortened : Option Addr} {sl_shortened : Array (Option Value)} {oc_shortened kV_shortened dc_shortened pm_shortened cd_shortened ct_shortened : Value}
    {od_undoing an_undoing : Option Addr} {sl_undoing : Array (Option Value)} {oc_undoing kV_undoing dc_undoing pm_undoing cd_undoing ct_undoing : Value}
    {od__law_taken an__law_taken : Option Addr} {sl__law_taken : Array (Option Value)} {oc__law_taken kV__law_taken dc__law_taken pm__law_taken cd__law_taken ct__law_taken : Value}
    {od__law_raised an__law_raised : Option Addr} {sl__law_raised : Array (Option Value)} {oc__law_raised kV__law_raised dc__law_raised pm__law_raised cd__law_raised ct__law_raised : Value}
    {od__law_one an__law_one : Option Addr} {sl__law_one : Array (Option Value)} {oc__law_one kV__law_one dc__law_one pm__law_one cd__law_one ct__law_one : Value}
    {od__law_cross an__law_cross : Option Addr} {sl__law_cross : Array (Option Value)} {oc__law_cross kV__law_cross dc__law_cross pm__law_cross cd__law_cross ct__law_cross : Value}
    {od_law an_law : Option Addr} {sl_law : Array (Option Value)} {oc_law kV_law dc_law pm_law cd_law ct_law : Value}
    {tk_CELL : Nat}
    {tk_COMB : Nat}
    {tk_DROP : Nat}
    {tk_FEW_CELLS_fewest : Nat}
    {tk_FEW_CELLS_origins : Nat}
    {tk_LETTERS : Nat}
    {tk_MAX_CELLS : Nat}
    {tk_MAX_DEEDS : Nat}
    {tk_MAX_DROPS : Nat}
    {tk_MAX_SIDE : Nat}
    {tk_MAX_STRIDE : Nat}
    {tk_NOTHING : Nat}
    {tk_PAPER : Nat}
    {tk_PARTING : Nat}
    {tk_RAKE : Nat}
    {tk_UNTOLD : Nat}
    (h_a_is_number : PySem.W.nsIn KB mainGlobals "is_number" = some (some (.ref f_is_number)))
    (h_a_is_letter : PySem.W.nsIn KB mainGlobals "is_letter" = some (some (.ref f_is_letter)))
    (h_a_are_signs : PySem.W.nsIn KB mainGlobals "are_signs" = some (some (.ref f_are_signs)))
    (h_a_is_size : PySem.W.nsIn KB mainGlobals "is_size" = some (some (.ref f_is_size)))
    (h_a_check_size : PySem.W.nsIn KB mainGlobals "check_size" = some (some (.ref f_check_size)))
    (h_a_are_strides : PySem.W.nsIn KB mainGlobals "are_strides" = some (some (.ref f_are_strides)))
    (h_a_are_cells : PySem.W.nsIn KB mainGlobals "are_cells" = some (some (.ref f_are_cells)))
    (h_a_is_draw : PySem.W.nsIn KB mainGlobals "is_draw" = some (some (.ref f_is_draw)))
    (h_a_is_deed : PySem.W.nsIn KB mainGlobals "is_deed" = some (some (.ref f_is_deed)))
    (h_a_check_recipe : PySem.W.nsIn KB mainGlobals "check_recipe" = some (some (.ref f_check_recipe)))
    (h_a_drawn : PySem.W.nsIn KB mainGlobals "drawn" = some (some (.ref f_drawn)))
    (h_a_pushed : PySem.W.nsIn KB mainGlobals "pushed" = some (some (.ref f_pushed)))
    (h_a_all_steps : PySem.W.nsIn KB mainGlobals "all_steps" = some (some (.ref f_all_steps)))
    (h_a_done : PySem.W.nsIn KB mainGlobals "done" = some (some (.ref f_done)))
    (h_a_check_cell : PySem.W.nsIn KB mainGlobals "check_cell" = some (some (.ref f_check_cell)))
    (h_a_ahead_of : PySem.W.nsIn KB mainGlobals "ahead_of" = some (some (.ref f_ahead_of)))
    (h_a_last_drops : PySem.W.nsIn KB mainGlobals "last_drops" = some (some (.ref f_last_drops)))
    (h_a_check_colours : PySem.W.nsIn KB mainGlobals "check_colours" = some (some (.ref f_check_colours)))
    (h_a_known_ahead : PySem.W.nsIn KB mainGlobals "known_ahead" = some (some (.ref f_known_ahead)))
    (h_a_fits : PySem.W.nsIn KB mainGlobals "fits" = some (some (.ref f_fits)))
    (h_a_ahead_count : PySem.W.nsIn KB mainGlobals "ahead_count" = some (some (.ref f_ahead_count)))
    (h_a_first_ahead : PySem.W.nsIn KB mainGlobals "first_ahead" = some (some (.ref f_first_ahead)))
    (h_a_period : PySem.W.nsIn KB mainGlobals "period" = some (some (.ref f_period)))
    (h_a_check_few : PySem.W.nsIn KB mainGlobals "check_few" = some (some (.ref f_check_few)))
    (h_a_check_cells : PySem.W.nsIn KB mainGlobals "check_cells" = some (some (.ref f_check_cells)))
    (h_a_all_strides : PySem.W.nsIn KB mainGlobals "all_strides" = some (some (.ref f_all_strides)))
    (h_a_all_draws : PySem.W.nsIn KB mainGlobals "all_draws" = some (some (.ref f_all_draws)))
    (h_a_draw_levels : PySem.W.nsIn KB mainGlobals "draw_levels" = some (some (.ref f_draw_levels)))
    (h_a_draw_count : PySem.W.nsIn KB mainGlobals "draw_count" = some (some (.ref f_draw_count)))
    (h_a_fewest_draws : PySem.W.nsIn KB mainGlobals "fewest_draws" = some (some (.ref f_fewest_draws)))
    (h_a_check_drops : PySem.W.nsIn KB mainGlobals "check_drops" = some (some (.ref f_check_drops)))
    (h_a_dropped : PySem.W.nsIn KB mainGlobals "dropped" = some (some (.ref f_dropped)))
    (h_a_first_way : PySem.W.nsIn KB mainGlobals "first_way" = some (some (.ref f_first_way)))
    (h_a_first_drops : PySem.W.nsIn KB mainGlobals "first_drops" = some (some (.ref f_first_drops)))
    (h_a_fewest_drops : PySem.W.nsIn KB mainGlobals "fewest_drops" = some (some (.ref f_fewest_drops)))
    (h_a_choices : PySem.W.nsIn KB mainGlobals "choices" = some (some (.ref f_choices)))
    (h_a_colourings : PySem.W.nsIn KB mainGlobals "colourings" = some (some (.ref f_colourings)))
    (h_a_recipes_of_drops : PySem.W.nsIn KB mainGlobals "recipes_of_drops" = some (some (.ref f_recipes_of_drops)))
    (h_a_origins_of : PySem.W.nsIn KB mainGlobals "origins_of" = some (some (.ref f_origins_of)))
    (h_a_sources : PySem.W.nsIn KB mainGlobals "sources" = some (some (.ref f_sources)))
    (h_a_copies_of : PySem.W.nsIn KB mainGlobals "copies_of" = some (some (.ref f_copies_of)))
    (h_a_lost : PySem.W.nsIn KB mainGlobals "lost" = some (some (.ref f_lost)))
    (h_a_shown : PySem.W.nsIn KB mainGlobals "shown" = some (some (.ref f_shown)))
    (h_a_outcome : PySem.W.nsIn KB mainGlobals "outcome" = some (some (.ref f_outcome)))
    (h_a_check_two : PySem.W.nsIn KB mainGlobals "check_two" = some (some (.ref f_check_two)))
    (h_a_are_alike : PySem.W.nsIn KB mainGlobals "are_alike" = some (some (.ref f_are_alike)))
    (h_a_alike : PySem.W.nsIn KB mainGlobals "alike" = some (some (.ref f_alike)))
    (h_a_texts : PySem.W.nsIn KB mainGlobals "texts" = some (some (.ref f_texts)))
    (h_a_parting_bath : PySem.W.nsIn KB mainGlobals "parting_bath" = some (some (.ref f_parting_bath)))
    (h_a_check_papers : PySem.W.nsIn KB mainGlobals "check_papers" = some (some (.ref f_check_papers)))
    (h_a_told : PySem.W.nsIn KB mainGlobals "told" = some (some (.ref f_told)))
    (h_a_plain : PySem.W.nsIn KB mainGlobals "plain" = some (some (.ref f_plain)))
    (h_a_turned_back : PySem.W.nsIn KB mainGlobals "turned_back" = some (some (.ref f_turned_back)))
    (h_a_short : PySem.W.nsIn KB mainGlobals "short" = some (some (.ref f_short)))
    (h_a_shortened : PySem.W.nsIn KB mainGlobals "shortened" = some (some (.ref f_shortened)))
    (h_a_undoing : PySem.W.nsIn KB mainGlobals "undoing" = some (some (.ref f_undoing)))
    (h_a__law_taken : PySem.W.nsIn KB mainGlobals "_law_taken" = some (some (.ref f__law_taken)))
    (h_a__law_raised : PySem.W.nsIn KB mainGlobals "_law_raised" = some (some (.ref f__law_raised)))
    (h_a__law_one : PySem.W.nsIn KB mainGlobals "_law_one" = some (some (.ref f__law_one)))
    (h_a__law_cross : PySem.W.nsIn KB mainGlobals "_law_cross" = some (some (.ref f__law_cross)))
    (h_a_law : PySem.W.nsIn KB mainGlobals "law" = some (some (.ref f_law)))
    (h_a_Bath : PySem.W.nsIn KB mainGlobals "Bath" = some (some (.ref c_Bath)))
    (h_a_Tray : PySem.W.nsIn KB mainGlobals "Tray" = some (some (.ref c_Tray)))
    (h_a_Rounds : PySem.W.nsIn KB mainGlobals "Rounds" = some (some (.ref c_Rounds)))
    (h_a_BathError : PySem.W.nsIn KB mainGlobals "BathError" = some (some (.ref c_BathError)))
    (h_a_InvalidBath : PySem.W.nsIn KB mainGlobals "InvalidBath" = some (some (.ref c_InvalidBath)))
    (h_a_InvalidSize : PySem.W.nsIn KB mainGlobals "InvalidSize" = some (some (.ref c_InvalidSize)))
    (h_a_InvalidRecipe : PySem.W.nsIn KB mainGlobals "InvalidRecipe" = some (some (.ref c_InvalidRecipe)))
    (hb_eg_InvalidRecipe : PySem.W.findIn KB (.ref c_InvalidRecipe) "__getattribute__" = some (some (.builtin "BaseException.__getattribute__")))
    (hb_ek_InvalidRecipe : PySem.W.findIn KB (.ref c_InvalidRecipe) "__getattr__" = some none)
    (hb_es_InvalidRecipe : PySem.W.subIn KB (.ref c_InvalidRecipe) (.type "BaseException") = some true)
    (hb_ed_InvalidRecipe : PySem.W.hasDictIn KB c_InvalidRecipe = true)
    (hb_ea_InvalidRecipe : PySem.W.findIn KB (.ref c_InvalidRecipe) "__class__" = some (some (.builtin "object.__class__")))
    (hb_en_InvalidRecipe : PySem.W.specialIn KB (.builtin "object.__class__") "__get__" = some (some (.builtin "getset_descriptor.__get__")))
    (hb_et_InvalidRecipe : PySem.W.takesIn KB (.builtin "object.__class__") = some true)
    (hb_em_InvalidRecipe : PySem.W.mroIn KB c_InvalidRecipe (.type "object") = some true)
    (h_a_UnknownCell : PySem.W.nsIn KB mainGlobals "UnknownCell" = some (some (.ref c_UnknownCell)))
    (h_a_InvalidSign : PySem.W.nsIn KB mainGlobals "InvalidSign" = some (some (.ref c_InvalidSign)))
    (h_a_InvalidDeed : PySem.W.nsIn KB mainGlobals "InvalidDeed" = some (some (.ref c_InvalidDeed)))
    (h_a_InvalidCells : PySem.W.nsIn KB mainGlobals "InvalidCells" = some (some (.ref c_InvalidCells)))
    (h_a_InvalidNumber : PySem.W.nsIn KB mainGlobals "InvalidNumber" = some (some (.ref c_InvalidNumber)))
    (h_a_TooMany : PySem.W.nsIn KB mainGlobals "TooMany" = some (some (.ref c_TooMany)))
    (h_a_InvalidColours : PySem.W.nsIn KB mainGlobals "InvalidColours" = some (some (.ref c_InvalidColours)))
    (h_a_NoDrop : PySem.W.nsIn KB mainGlobals "NoDrop" = some (some (.ref c_NoDrop)))
    (h_a_InvalidPapers : PySem.W.nsIn KB mainGlobals "InvalidPapers" = some (some (.ref c_InvalidPapers)))
    (hb_xa_InvalidRecipe : PySem.W.findIn KB (.ref c_InvalidRecipe) "__setattr__" = some (some (.builtin "object.__setattr__")))
    (hb_xt_InvalidRecipe : PySem.W.typeIn KB (.ref c_InvalidRecipe) = some (.type "type"))
    (hb_kc_InvalidRecipe : PySem.W.keepIn KB (.ref c_InvalidRecipe) = true)
    (hb_xn_InvalidRecipe : PySem.W.findIn KB (.ref c_InvalidRecipe) "index" = some none)
    (hb_xm_InvalidRecipe : PySem.W.findIn KB (.ref c_InvalidRecipe) "__init__" = some (some (.ref f_InvalidRecipeD_initD)))
    (hb_xu_InvalidRecipe : PySem.W.typeIn KB (.ref f_InvalidRecipeD_initD) = some (.type "function"))
    (hb_m_BathD_initD : PySem.W.findIn KB (.ref c_Bath) "__init__" = some (some (.ref f_BathD_initD)))
    (hb_i_BathD_initD : PySem.W.isFn KB (.ref f_BathD_initD) = true)
    (hb_pa_Bath_width : PySem.W.findIn KB (.ref c_Bath) "width" = some (some (.ref p_Bath_width)))
    (hb_pr_Bath_width : PySem.W.recIn KB p_Bath_width "property" = some (.ref f_Bath_width :: rest_Bath_width))
    (hb_pg_Bath_width : PySem.W.specialIn KB (.ref p_Bath_width) "__get__" = some (some (.builtin "property.__get__")))
    (hb_pt_Bath_width : PySem.W.takesIn KB (.ref p_Bath_width) = some true)
    (hb_pa_Bath_height : PySem.W.findIn KB (.ref c_Bath) "height" = some (some (.ref p_Bath_height)))
    (hb_pr_Bath_height : PySem.W.recIn KB p_Bath_height "property" = some (.ref f_Bath_height :: rest_Bath_height))
    (hb_pg_Bath_height : PySem.W.specialIn KB (.ref p_Bath_height) "__get__" = some (some (.builtin "property.__get__")))
    (hb_pt_Bath_height : PySem.W.takesIn KB (.ref p_Bath_height) = some true)
    (hb_pa_Bath_cells : PySem.W.findIn KB (.ref c_Bath) "cells" = some (some (.ref p_Bath_cells)))
    (hb_pr_Bath_cells : PySem.W.recIn KB p_Bath_cells "property" = some (.ref f_Bath_cells :: rest_Bath_cells))
    (hb_pg_Bath_cells : PySem.W.specialIn KB (.ref p_Bath_cells) "__get__" = some (some (.builtin "property.__get__")))
    (hb_pt_Bath_cells : PySem.W.takesIn KB (.ref p_Bath_cells) = some true)
    (hb_m_BathD_lenD : PySem.W.findIn KB (.ref c_Bath) "__len__" = some (some (.ref f_BathD_lenD)))
    (hb_i_BathD_lenD : PySem.W.isFn KB (.ref f_BathD_lenD) = true)
    (hb_m_BathD_eqD : PySem.W.findIn KB (.ref c_Bath) "__eq__" = some (some (.ref f_BathD_eqD)))
    (hb_i_BathD_eqD : PySem.W.isFn KB (.ref f_BathD_eqD) = true)
    (hb_pg_Bath : PySem.W.plainGet KB c_Bath Str.empty = true)
    (hb_po_Bath : PySem.W.plainOver KB c_Bath = true)
    (hb_sa_Bath : PySem.W.findIn KB (.ref c_Bath) "__setattr__" = some (some (.builtin "object.__setattr__")))
    (hb_ic_Bath : PySem.W.isClsIn KB c_Bath = true)
    (hb_mk_Bath : PySem.W.makesIn KB c_Bath = true)
    (hb_kc_Bath : PySem.W.keepIn KB (.ref c_Bath) = true)
    (hb_fa_Bath_parts : PySem.W.findIn KB (.ref c_Bath) "parts" = some (some (.ref s_Bath_parts)))
    (hb_fg_Bath_parts : PySem.W.specialIn KB (.ref s_Bath_parts) "__get__" = some (some (.builtin "member_descriptor.__get__")))
    (hb_ft_Bath_parts : PySem.W.takesIn KB (.ref s_Bath_parts) = some true)
    (hb_fy_Bath_parts : PySem.W.typeIn KB (.ref s_Bath_parts) = some (.type "member_descriptor"))
    (hb_fi_Bath_parts : PySem.W.slotIn KB s_Bath_parts c_Bath = some 0)
    (hb_ca_Bath : PySem.W.findIn KB (.ref c_Bath) "__class__" = some (some (.builtin "object.__class__")))
    (hb_cn_Bath : PySem.W.specialIn KB (.builtin "object.__class__") "__get__" = some (some (.builtin "getset_descriptor.__get__")))
    (hb_ct_Bath : PySem.W.takesIn KB (.builtin "object.__class__") = some true)
    (hb_cm_Bath : PySem.W.mroIn KB c_Bath (.type "object") = some true)
    (hb_m_TrayD_initD : PySem.W.findIn KB (.ref c_Tray) "__init__" = some (some (.ref f_TrayD_initD)))
    (hb_i_TrayD_initD : PySem.W.isFn KB (.ref f_TrayD_initD) = true)
    (hb_m_Tray_do : PySem.W.findIn KB (.ref c_Tray) "do" = some (some (.ref f_Tray_do)))
    (hb_i_Tray_do : PySem.W.isFn KB (.ref f_Tray_do) = true)
    (hb_pg_Tray : PySem.W.plainGet KB c_Tray Str.empty = true)
    (hb_po_Tray : PySem.W.plainOver KB c_Tray = true)
    (hb_sa_Tray : PySem.W.findIn KB (.ref c_Tray) "__setattr__" = some (some (.builtin "object.__setattr__")))
    (hb_hd_Tray : PySem.W.hasDictIn KB c_Tray = true)
    (hb_mk_Tray : PySem.W.makesIn KB c_Tray = true)
    (hb_kc_Tray : PySem.W.keepIn KB (.ref c_Tray) = true)
    (hb_fa_Tray_size : PySem.W.findIn KB (.ref c_Tray) "size" = some none)
    (hb_fa_Tray_things : PySem.W.findIn KB (.ref c_Tray) "things" = some none)
    (hb_fa_Tray_papers : PySem.W.findIn KB (.ref c_Tray) "papers" = some none)
    (hb_m_RoundsD_initD : PySem.W.findIn KB (.ref c_Rounds) "__init__" = some (some (.ref f_RoundsD_initD)))
    (hb_i_RoundsD_initD : PySem.W.isFn KB (.ref f_RoundsD_initD) = true)
    (hb_m_Rounds_at : PySem.W.findIn KB (.ref c_Rounds) "at" = some (some (.ref f_Rounds_at)))
    (hb_i_Rounds_at : PySem.W.isFn KB (.ref f_Rounds_at) = true)
    (hb_pg_Rounds : PySem.W.plainGet KB c_Rounds Str.empty = true)
    (hb_po_Rounds : PySem.W.plainOver KB c_Rounds = true)
    (hb_sa_Rounds : PySem.W.findIn KB (.ref c_Rounds) "__setattr__" = some (some (.builtin "object.__setattr__")))
    (hb_hd_Rounds : PySem.W.hasDictIn KB c_Rounds = true)
    (hb_mk_Rounds : PySem.W.makesIn KB c_Rounds = true)
    (hb_kc_Rounds : PySem.W.keepIn KB (.ref c_Rounds) = true)
    (hb_fa_Rounds_rows : PySem.W.findIn KB (.ref c_Rounds) "rows" = some none)
    (hb_fa_Rounds_begin : PySem.W.findIn KB (.ref c_Rounds) "begin" = some none)
    (hb_l_InvalidRecipeD_initD : KB.lookup f_InvalidRecipeD_initD = some ⟨oc_InvalidRecipeD_initD, od_InvalidRecipeD_initD, .func (PySem.W.fnOf "__init__" "InvalidRecipe.__init__" (defArgs s_InvalidRecipeD_initD) (defBody s_InvalidRecipeD_initD) (defScope s_InvalidRecipeD_initD) .none kV_InvalidRecipeD_initD dc_InvalidRecipeD_initD pm_InvalidRecipeD_initD an_InvalidRecipeD_initD cd_InvalidRecipeD_initD ct_InvalidRecipeD_initD), sl_InvalidRecipeD_initD⟩)
    (hb_c_InvalidRecipeD_initD : PySem.W.codeIn KB cd_InvalidRecipeD_initD "InvalidRecipe.__init__" = true)
    (hb_k_InvalidRecipeD_initD : PySem.W.keepIn KB (.ref f_InvalidRecipeD_initD) = true)
    (hb_l_is_number : KB.lookup f_is_number = some ⟨oc_is_number, od_is_number, .func (PySem.W.fnOf "is_number" "is_number" (defArgs s_is_number) (defBody s_is_number) (defScope s_is_number) .none kV_is_number dc_is_number pm_is_number an_is_number cd_is_number ct_is_number), sl_is_number⟩)
    (hb_c_is_number : PySem.W.codeIn KB cd_is_number "is_number" = true)
    (hb_k_is_number : PySem.W.keepIn KB (.ref f_is_number) = true)
    (hb_l_is_letter : KB.lookup f_is_letter = some ⟨oc_is_letter, od_is_letter, .func (PySem.W.fnOf "is_letter" "is_letter" (defArgs s_is_letter) (defBody s_is_letter) (defScope s_is_letter) .none kV_is_letter dc_is_letter pm_is_letter an_is_letter cd_is_letter ct_is_letter), sl_is_letter⟩)
    (hb_c_is_letter : PySem.W.codeIn KB cd_is_letter "is_letter" = true)
    (hb_k_is_letter : PySem.W.keepIn KB (.ref f_is_letter) = true)
    (hb_l_are_signs : KB.lookup f_are_signs = some ⟨oc_are_signs, od_are_signs, .func (PySem.W.fnOf "are_signs" "are_signs" (defArgs s_are_signs) (defBody s_are_signs) (defScope s_are_signs) .none kV_are_signs dc_are_signs pm_are_signs an_are_signs cd_are_signs ct_are_signs), sl_are_signs⟩)
    (hb_c_are_signs : PySem.W.codeIn KB cd_are_signs "are_signs" = true)
    (hb_k_are_signs : PySem.W.keepIn KB (.ref f_are_signs) = true)
    (hb_l_is_size : KB.lookup f_is_size = some ⟨oc_is_size, od_is_size, .func (PySem.W.fnOf "is_size" "is_size" (defArgs s_is_size) (defBody s_is_size) (defScope s_is_size) .none kV_is_size dc_is_size pm_is_size an_is_size cd_is_size ct_is_size), sl_is_size⟩)
    (hb_c_is_size : PySem.W.codeIn KB cd_is_size "is_size" = true)
    (hb_k_is_size : PySem.W.keepIn KB (.ref f_is_size) = true)
    (hb_l_check_size : KB.lookup f_check_size = some ⟨oc_check_size, od_check_size, .func (PySem.W.fnOf "check_size" "check_size" (defArgs s_check_size) (defBody s_check_size) (defScope s_check_size) .none kV_check_size dc_check_size pm_check_size an_check_size cd_check_size ct_check_size), sl_check_size⟩)
    (hb_c_check_size : PySem.W.codeIn KB cd_check_size "check_size" = true)
    (hb_k_check_size : PySem.W.keepIn KB (.ref f_check_size) = true)
    (hb_l_BathD_initD : KB.lookup f_BathD_initD = some ⟨oc_BathD_initD, od_BathD_initD, .func (PySem.W.fnOf "__init__" "Bath.__init__" (defArgs s_BathD_initD) (defBody s_BathD_initD) (defScope s_BathD_initD) .none kV_BathD_initD dc_BathD_initD pm_BathD_initD an_BathD_initD cd_BathD_initD ct_BathD_initD), sl_BathD_initD⟩)
    (hb_c_BathD_initD : PySem.W.codeIn KB cd_BathD_initD "Bath.__init__" = true)
    (hb_k_BathD_initD : PySem.W.keepIn KB (.ref f_BathD_initD) = true)
    (hb_l_Bath_width : KB.lookup f_Bath_width = some ⟨oc_Bath_width, od_Bath_width, .func (PySem.W.fnOf "width" "Bath.width" (defArgs s_Bath_width) (defBody s_Bath_width) (defScope s_Bath_width) .none kV_Bath_width dc_Bath_width pm_Bath_width an_Bath_width cd_Bath_width ct_Bath_width), sl_Bath_width⟩)
    (hb_c_Bath_width : PySem.W.codeIn KB cd_Bath_width "Bath.width" = true)
    (hb_k_Bath_width : PySem.W.keepIn KB (.ref f_Bath_width) = true)
    (hb_l_Bath_height : KB.lookup f_Bath_height = some ⟨oc_Bath_height, od_Bath_height, .func (PySem.W.fnOf "height" "Bath.height" (defArgs s_Bath_height) (defBody s_Bath_height) (defScope s_Bath_height) .none kV_Bath_height dc_Bath_height pm_Bath_height an_Bath_height cd_Bath_height ct_Bath_height), sl_Bath_height⟩)
    (hb_c_Bath_height : PySem.W.codeIn KB cd_Bath_height "Bath.height" = true)
    (hb_k_Bath_height : PySem.W.keepIn KB (.ref f_Bath_height) = true)
    (hb_l_Bath_cells : KB.lookup f_Bath_cells = some ⟨oc_Bath_cells, od_Bath_cells, .func (PySem.W.fnOf "cells" "Bath.cells" (defArgs s_Bath_cells) (defBody s_Bath_cells) (defScope s_Bath_cells) .none kV_Bath_cells dc_Bath_cells pm_Bath_cells an_Bath_cells cd_Bath_cells ct_Bath_cells), sl_Bath_cells⟩)
    (hb_c_Bath_cells : PySem.W.codeIn KB cd_Bath_cells "Bath.cells" = true)
    (hb_k_Bath_cells : PySem.W.keepIn KB (.ref f_Bath_cells) = true)
    (hb_l_BathD_lenD : KB.lookup f_BathD_lenD = some ⟨oc_BathD_lenD, od_BathD_lenD, .func (PySem.W.fnOf "__len__" "Bath.__len__" (defArgs s_BathD_lenD) (defBody s_BathD_lenD) (defScope s_BathD_lenD) .none kV_BathD_lenD dc_BathD_lenD pm_BathD_lenD an_BathD_lenD cd_BathD_lenD ct_BathD_lenD), sl_BathD_lenD⟩)
    (hb_c_BathD_lenD : PySem.W.codeIn KB cd_BathD_lenD "Bath.__len__" = true)
    (hb_k_BathD_lenD : PySem.W.keepIn KB (.ref f_BathD_lenD) = true)
    (hb_l_BathD_eqD : KB.lookup f_BathD_eqD = some ⟨oc_BathD_eqD, od_BathD_eqD, .func (PySem.W.fnOf "__eq__" "Bath.__eq__" (defArgs s_BathD_eqD) (defBody s_BathD_eqD) (defScope s_BathD_eqD) .none kV_BathD_eqD dc_BathD_eqD pm_BathD_eqD an_BathD_eqD cd_BathD_eqD ct_BathD_eqD), sl_BathD_eqD⟩)
    (hb_c_BathD_eqD : PySem.W.codeIn KB cd_BathD_eqD "Bath.__eq__" = true)
    (hb_k_BathD_eqD : PySem.W.keepIn KB (.ref f_BathD_eqD) = true)
    (hb_l_are_strides : KB.lookup f_are_strides = some ⟨oc_are_strides, od_are_strides, .func (PySem.W.fnOf "are_strides" "are_strides" (defArgs s_are_strides) (defBody s_are_strides) (defScope s_are_strides) .none kV_are_strides dc_are_strides pm_are_strides an_are_strides cd_are_strides ct_are_strides), sl_are_strides⟩)
    (hb_c_are_strides : PySem.W.codeIn KB cd_are_strides "are_strides" = true)
    (hb_k_are_strides : PySem.W.keepIn KB (.ref f_are_strides) = true)
    (hb_l_are_cells : KB.lookup f_are_cells = some ⟨oc_are_cells, od_are_cells, .func (PySem.W.fnOf "are_cells" "are_cells" (defArgs s_are_cells) (defBody s_are_cells) (defScope s_are_cells) .none kV_are_cells dc_are_cells pm_are_cells an_are_cells cd_are_cells ct_are_cells), sl_are_cells⟩)
    (hb_c_are_cells : PySem.W.codeIn KB cd_are_cells "are_cells" = true)
    (hb_k_are_cells : PySem.W.keepIn KB (.ref f_are_cells) = true)
    (hb_l_is_draw : KB.lookup f_is_draw = some ⟨oc_is_draw, od_is_draw, .func (PySem.W.fnOf "is_draw" "is_draw" (defArgs s_is_draw) (defBody s_is_draw) (defScope s_is_draw) .none kV_is_draw dc_is_draw pm_is_draw an_is_draw cd_is_draw ct_is_draw), sl_is_draw⟩)
    (hb_c_is_draw : PySem.W.codeIn KB cd_is_draw "is_draw" = true)
    (hb_k_is_draw : PySem.W.keepIn KB (.ref f_is_draw) = true)
    (hb_l_is_deed : KB.lookup f_is_deed = some ⟨oc_is_deed, od_is_deed, .func (PySem.W.fnOf "is_deed" "is_deed" (defArgs s_is_deed) (defBody s_is_deed) (defScope s_is_deed) .none kV_is_deed dc_is_deed pm_is_deed an_is_deed cd_is_deed ct_is_deed), sl_is_deed⟩)
    (hb_c_is_deed : PySem.W.codeIn KB cd_is_deed "is_deed" = true)
    (hb_k_is_deed : PySem.W.keepIn KB (.ref f_is_deed) = true)
    (hb_l_check_recipe : KB.lookup f_check_recipe = some ⟨oc_check_recipe, od_check_recipe, .func (PySem.W.fnOf "check_recipe" "check_recipe" (defArgs s_check_recipe) (defBody s_check_recipe) (defScope s_check_recipe) .none kV_check_recipe dc_check_recipe pm_check_recipe an_check_recipe cd_check_recipe ct_check_recipe), sl_check_recipe⟩)
    (hb_c_check_recipe : PySem.W.codeIn KB cd_check_recipe "check_recipe" = true)
    (hb_k_check_recipe : PySem.W.keepIn KB (.ref f_check_recipe) = true)
    (hb_l_drawn : KB.lookup f_drawn = some ⟨oc_drawn, od_drawn, .func (PySem.W.fnOf "drawn" "drawn" (defArgs s_drawn) (defBody s_drawn) (defScope s_drawn) .none kV_drawn dc_drawn pm_drawn an_drawn cd_drawn ct_drawn), sl_drawn⟩)
    (hb_c_drawn : PySem.W.codeIn KB cd_drawn "drawn" = true)
    (hb_k_drawn : PySem.W.keepIn KB (.ref f_drawn) = true)
    (hb_l_pushed : KB.lookup f_pushed = some ⟨oc_pushed, od_pushed, .func (PySem.W.fnOf "pushed" "pushed" (defArgs s_pushed) (defBody s_pushed) (defScope s_pushed) .none kV_pushed dc_pushed pm_pushed an_pushed cd_pushed ct_pushed), sl_pushed⟩)
    (hb_c_pushed : PySem.W.codeIn KB cd_pushed "pushed" = true)
    (hb_k_pushed : PySem.W.keepIn KB (.ref f_pushed) = true)
    (hb_l_TrayD_initD : KB.lookup f_TrayD_initD = some ⟨oc_TrayD_initD, od_TrayD_initD, .func (PySem.W.fnOf "__init__" "Tray.__init__" (defArgs s_TrayD_initD) (defBody s_TrayD_initD) (defScope s_TrayD_initD) .none kV_TrayD_initD dc_TrayD_initD pm_TrayD_initD an_TrayD_initD cd_TrayD_initD ct_TrayD_initD), sl_TrayD_initD⟩)
    (hb_c_TrayD_initD : PySem.W.codeIn KB cd_TrayD_initD "Tray.__init__" = true)
    (hb_k_TrayD_initD : PySem.W.keepIn KB (.ref f_TrayD_initD) = true)
    (hb_l_Tray_do : KB.lookup f_Tray_do = some ⟨oc_Tray_do, od_Tray_do, .func (PySem.W.fnOf "do" "Tray.do" (defArgs s_Tray_do) (defBody s_Tray_do) (defScope s_Tray_do) .none kV_Tray_do dc_Tray_do pm_Tray_do an_Tray_do cd_Tray_do ct_Tray_do), sl_Tray_do⟩)
    (hb_c_Tray_do : PySem.W.codeIn KB cd_Tray_do "Tray.do" = true)
    (hb_k_Tray_do : PySem.W.keepIn KB (.ref f_Tray_do) = true)
    (hb_l_all_steps : KB.lookup f_all_steps = some ⟨oc_all_steps, od_all_steps, .func (PySem.W.fnOf "all_steps" "all_steps" (defArgs s_all_steps) (defBody s_all_steps) (defScope s_all_steps) .none kV_all_steps dc_all_steps pm_all_steps an_all_steps cd_all_steps ct_all_steps), sl_all_steps⟩)
    (hb_c_all_steps : PySem.W.codeIn KB cd_all_steps "all_steps" = true)
    (hb_k_all_steps : PySem.W.keepIn KB (.ref f_all_steps) = true)
    (hb_l_done : KB.lookup f_done = some ⟨oc_done, od_done, .func (PySem.W.fnOf "done" "done" (defArgs s_done) (defBody s_done) (defScope s_done) .none kV_done dc_done pm_done an_done cd_done ct_done), sl_done⟩)
    (hb_c_done : PySem.W.codeIn KB cd_done "done" = true)
    (hb_k_done : PySem.W.keepIn KB (.ref f_done) = true)
    (hb_l_check_cell : KB.lookup f_check_cell = some ⟨oc_check_cell, od_check_cell, .func (PySem.W.fnOf "check_cell" "check_cell" (defArgs s_check_cell) (defBody s_check_cell) (defScope s_check_cell) .none kV_check_cell dc_check_cell pm_check_cell an_check_cell cd_check_cell ct_check_cell), sl_check_cell⟩)
    (hb_c_check_cell : PySem.W.codeIn KB cd_check_cell "check_cell" = true)
    (hb_k_check_cell : PySem.W.keepIn KB (.ref f_check_cell) = true)
    (hb_l_ahead_of : KB.lookup f_ahead_of = some ⟨oc_ahead_of, od_ahead_of, .func (PySem.W.fnOf "ahead_of" "ahead_of" (defArgs s_ahead_of) (defBody s_ahead_of) (defScope s_ahead_of) .none kV_ahead_of dc_ahead_of pm_ahead_of an_ahead_of cd_ahead_of ct_ahead_of), sl_ahead_of⟩)
    (hb_c_ahead_of : PySem.W.codeIn KB cd_ahead_of "ahead_of" = true)
    (hb_k_ahead_of : PySem.W.keepIn KB (.ref f_ahead_of) = true)
    (hb_l_last_drops : KB.lookup f_last_drops = some ⟨oc_last_drops, od_last_drops, .func (PySem.W.fnOf "last_drops" "last_drops" (defArgs s_last_drops) (defBody s_last_drops) (defScope s_last_drops) .none kV_last_drops dc_last_drops pm_last_drops an_last_drops cd_last_drops ct_last_drops), sl_last_drops⟩)
    (hb_c_last_drops : PySem.W.codeIn KB cd_last_drops "last_drops" = true)
    (hb_k_last_drops : PySem.W.keepIn KB (.ref f_last_drops) = true)
    (hb_l_check_colours : KB.lookup f_check_colours = some ⟨oc_check_colours, od_check_colours, .func (PySem.W.fnOf "check_colours" "check_colours" (defArgs s_check_colours) (defBody s_check_colours) (defScope s_check_colours) .none kV_check_colours dc_check_colours pm_check_colours an_check_colours cd_check_colours ct_check_colours), sl_check_colours⟩)
    (hb_c_check_colours : PySem.W.codeIn KB cd_check_colours "check_colours" = true)
    (hb_k_check_colours : PySem.W.keepIn KB (.ref f_check_colours) = true)
    (hb_l_known_ahead : KB.lookup f_known_ahead = some ⟨oc_known_ahead, od_known_ahead, .func (PySem.W.fnOf "known_ahead" "known_ahead" (defArgs s_known_ahead) (defBody s_known_ahead) (defScope s_known_ahead) .none kV_known_ahead dc_known_ahead pm_known_ahead an_known_ahead cd_known_ahead ct_known_ahead), sl_known_ahead⟩)
    (hb_c_known_ahead : PySem.W.codeIn KB cd_known_ahead "known_ahead" = true)
    (hb_k_known_ahead : PySem.W.keepIn KB (.ref f_known_ahead) = true)
    (hb_l_fits : KB.lookup f_fits = some ⟨oc_fits, od_fits, .func (PySem.W.fnOf "fits" "fits" (defArgs s_fits) (defBody s_fits) (defScope s_fits) .none kV_fits dc_fits pm_fits an_fits cd_fits ct_fits), sl_fits⟩)
    (hb_c_fits : PySem.W.codeIn KB cd_fits "fits" = true)
    (hb_k_fits : PySem.W.keepIn KB (.ref f_fits) = true)
    (hb_l_ahead_count : KB.lookup f_ahead_count = some ⟨oc_ahead_count, od_ahead_count, .func (PySem.W.fnOf "ahead_count" "ahead_count" (defArgs s_ahead_count) (defBody s_ahead_count) (defScope s_ahead_count) .none kV_ahead_count dc_ahead_count pm_ahead_count an_ahead_count cd_ahead_count ct_ahead_count), sl_ahead_count⟩)
    (hb_c_ahead_count : PySem.W.codeIn KB cd_ahead_count "ahead_count" = true)
    (hb_k_ahead_count : PySem.W.keepIn KB (.ref f_ahead_count) = true)
    (hb_l_first_ahead : KB.lookup f_first_ahead = some ⟨oc_first_ahead, od_first_ahead, .func (PySem.W.fnOf "first_ahead" "first_ahead" (defArgs s_first_ahead) (defBody s_first_ahead) (defScope s_first_ahead) .none kV_first_ahead dc_first_ahead pm_first_ahead an_first_ahead cd_first_ahead ct_first_ahead), sl_first_ahead⟩)
    (hb_c_first_ahead : PySem.W.codeIn KB cd_first_ahead "first_ahead" = true)
    (hb_k_first_ahead : PySem.W.keepIn KB (.ref f_first_ahead) = true)
    (hb_l_RoundsD_initD : KB.lookup f_RoundsD_initD = some ⟨oc_RoundsD_initD, od_RoundsD_initD, .func (PySem.W.fnOf "__init__" "Rounds.__init__" (defArgs s_RoundsD_initD) (defBody s_RoundsD_initD) (defScope s_RoundsD_initD) .none kV_RoundsD_initD dc_RoundsD_initD pm_RoundsD_initD an_RoundsD_initD cd_RoundsD_initD ct_RoundsD_initD), sl_RoundsD_initD⟩)
    (hb_c_RoundsD_initD : PySem.W.codeIn KB cd_RoundsD_initD "Rounds.__init__" = true)
    (hb_k_RoundsD_initD : PySem.W.keepIn KB (.ref f_RoundsD_initD) = true)
    (hb_l_Rounds_at : KB.lookup f_Rounds_at = some ⟨oc_Rounds_at, od_Rounds_at, .func (PySem.W.fnOf "at" "Rounds.at" (defArgs s_Rounds_at) (defBody s_Rounds_at) (defScope s_Rounds_at) .none kV_Rounds_at dc_Rounds_at pm_Rounds_at an_Rounds_at cd_Rounds_at ct_Rounds_at), sl_Rounds_at⟩)
    (hb_c_Rounds_at : PySem.W.codeIn KB cd_Rounds_at "Rounds.at" = true)
    (hb_k_Rounds_at : PySem.W.keepIn KB (.ref f_Rounds_at) = true)
    (hb_l_period : KB.lookup f_period = some ⟨oc_period, od_period, .func (PySem.W.fnOf "period" "period" (defArgs s_period) (defBody s_period) (defScope s_period) .none kV_period dc_period pm_period an_period cd_period ct_period), sl_period⟩)
    (hb_c_period : PySem.W.codeIn KB cd_period "period" = true)
    (hb_k_period : PySem.W.keepIn KB (.ref f_period) = true)
    (hb_l_check_few : KB.lookup f_check_few = some ⟨oc_check_few, od_check_few, .func (PySem.W.fnOf "check_few" "check_few" (defArgs s_check_few) (defBody s_check_few) (defScope s_check_few) .none kV_check_few dc_check_few pm_check_few an_check_few cd_check_few ct_check_few), sl_check_few⟩)
    (hb_c_check_few : PySem.W.codeIn KB cd_check_few "check_few" = true)
    (hb_k_check_few : PySem.W.keepIn KB (.ref f_check_few) = true)
    (hb_l_check_cells : KB.lookup f_check_cells = some ⟨oc_check_cells, od_check_cells, .func (PySem.W.fnOf "check_cells" "check_cells" (defArgs s_check_cells) (defBody s_check_cells) (defScope s_check_cells) .none kV_check_cells dc_check_cells pm_check_cells an_check_cells cd_check_cells ct_check_cells), sl_check_cells⟩)
    (hb_c_check_cells : PySem.W.codeIn KB cd_check_cells "check_cells" = true)
    (hb_k_check_cells : PySem.W.keepIn KB (.ref f_check_cells) = true)
    (hb_l_all_strides : KB.lookup f_all_strides = some ⟨oc_all_strides, od_all_strides, .func (PySem.W.fnOf "all_strides" "all_strides" (defArgs s_all_strides) (defBody s_all_strides) (defScope s_all_strides) .none kV_all_strides dc_all_strides pm_all_strides an_all_strides cd_all_strides ct_all_strides), sl_all_strides⟩)
    (hb_c_all_strides : PySem.W.codeIn KB cd_all_strides "all_strides" = true)
    (hb_k_all_strides : PySem.W.keepIn KB (.ref f_all_strides) = true)
    (hb_l_all_draws : KB.lookup f_all_draws = some ⟨oc_all_draws, od_all_draws, .func (PySem.W.fnOf "all_draws" "all_draws" (defArgs s_all_draws) (defBody s_all_draws) (defScope s_all_draws) .none kV_all_draws dc_all_draws pm_all_draws an_all_draws cd_all_draws ct_all_draws), sl_all_draws⟩)
    (hb_c_all_draws : PySem.W.codeIn KB cd_all_draws "all_draws" = true)
    (hb_k_all_draws : PySem.W.keepIn KB (.ref f_all_draws) = true)
    (hb_l_draw_levels : KB.lookup f_draw_levels = some ⟨oc_draw_levels, od_draw_levels, .func (PySem.W.fnOf "draw_levels" "draw_levels" (defArgs s_draw_levels) (defBody s_draw_levels) (defScope s_draw_levels) .none kV_draw_levels dc_draw_levels pm_draw_levels an_draw_levels cd_draw_levels ct_draw_levels), sl_draw_levels⟩)
    (hb_c_draw_levels : PySem.W.codeIn KB cd_draw_levels "draw_levels" = true)
    (hb_k_draw_levels : PySem.W.keepIn KB (.ref f_draw_levels) = true)
    (hb_l_draw_count : KB.lookup f_draw_count = some ⟨oc_draw_count, od_draw_count, .func (PySem.W.fnOf "draw_count" "draw_count" (defArgs s_draw_count) (defBody s_draw_count) (defScope s_draw_count) .none kV_draw_count dc_draw_count pm_draw_count an_draw_count cd_draw_count ct_draw_count), sl_draw_count⟩)
    (hb_c_draw_count : PySem.W.codeIn KB cd_draw_count "draw_count" = true)
    (hb_k_draw_count : PySem.W.keepIn KB (.ref f_draw_count) = true)
    (hb_l_fewest_draws : KB.lookup f_fewest_draws = some ⟨oc_fewest_draws, od_fewest_draws, .func (PySem.W.fnOf "fewest_draws" "fewest_draws" (defArgs s_fewest_draws) (defBody s_fewest_draws) (defScope s_fewest_draws) .none kV_fewest_draws dc_fewest_draws pm_fewest_draws an_fewest_draws cd_fewest_draws ct_fewest_draws), sl_fewest_draws⟩)
    (hb_c_fewest_draws : PySem.W.codeIn KB cd_fewest_draws "fewest_draws" = true)
    (hb_k_fewest_draws : PySem.W.keepIn KB (.ref f_fewest_draws) = true)
    (hb_l_check_drops : KB.lookup f_check_drops = some ⟨oc_check_drops, od_check_drops, .func (PySem.W.fnOf "check_drops" "check_drops" (defArgs s_check_drops) (defBody s_check_drops) (defScope s_check_drops) .none kV_check_drops dc_check_drops pm_check_drops an_check_drops cd_check_drops ct_check_drops), sl_check_drops⟩)
    (hb_c_check_drops : PySem.W.codeIn KB cd_check_drops "check_drops" = true)
    (hb_k_check_drops : PySem.W.keepIn KB (.ref f_check_drops) = true)
    (hb_l_dropped : KB.lookup f_dropped = some ⟨oc_dropped, od_dropped, .func (PySem.W.fnOf "dropped" "dropped" (defArgs s_dropped) (defBody s_dropped) (defScope s_dropped) .none kV_dropped dc_dropped pm_dropped an_dropped cd_dropped ct_dropped), sl_dropped⟩)
    (hb_c_dropped : PySem.W.codeIn KB cd_dropped "dropped" = true)
    (hb_k_dropped : PySem.W.keepIn KB (.ref f_dropped) = true)
    (hb_l_first_way : KB.lookup f_first_way = some ⟨oc_first_way, od_first_way, .func (PySem.W.fnOf "first_way" "first_way" (defArgs s_first_way) (defBody s_first_way) (defScope s_first_way) .none kV_first_way dc_first_way pm_first_way an_first_way cd_first_way ct_first_way), sl_first_way⟩)
    (hb_c_first_way : PySem.W.codeIn KB cd_first_way "first_way" = true)
    (hb_k_first_way : PySem.W.keepIn KB (.ref f_first_way) = true)
    (hb_l_first_drops : KB.lookup f_first_drops = some ⟨oc_first_drops, od_first_drops, .func (PySem.W.fnOf "first_drops" "first_drops" (defArgs s_first_drops) (defBody s_first_drops) (defScope s_first_drops) .none kV_first_drops dc_first_drops pm_first_drops an_first_drops cd_first_drops ct_first_drops), sl_first_drops⟩)
    (hb_c_first_drops : PySem.W.codeIn KB cd_first_drops "first_drops" = true)
    (hb_k_first_drops : PySem.W.keepIn KB (.ref f_first_drops) = true)
    (hb_l_fewest_drops : KB.lookup f_fewest_drops = some ⟨oc_fewest_drops, od_fewest_drops, .func (PySem.W.fnOf "fewest_drops" "fewest_drops" (defArgs s_fewest_drops) (defBody s_fewest_drops) (defScope s_fewest_drops) .none kV_fewest_drops dc_fewest_drops pm_fewest_drops an_fewest_drops cd_fewest_drops ct_fewest_drops), sl_fewest_drops⟩)
    (hb_c_fewest_drops : PySem.W.codeIn KB cd_fewest_drops "fewest_drops" = true)
    (hb_k_fewest_drops : PySem.W.keepIn KB (.ref f_fewest_drops) = true)
    (hb_l_choices : KB.lookup f_choices = some ⟨oc_choices, od_choices, .func (PySem.W.fnOf "choices" "choices" (defArgs s_choices) (defBody s_choices) (defScope s_choices) .none kV_choices dc_choices pm_choices an_choices cd_choices ct_choices), sl_choices⟩)
    (hb_c_choices : PySem.W.codeIn KB cd_choices "choices" = true)
    (hb_k_choices : PySem.W.keepIn KB (.ref f_choices) = true)
    (hb_l_colourings : KB.lookup f_colourings = some ⟨oc_colourings, od_colourings, .func (PySem.W.fnOf "colourings" "colourings" (defArgs s_colourings) (defBody s_colourings) (defScope s_colourings) .none kV_colourings dc_colourings pm_colourings an_colourings cd_colourings ct_colourings), sl_colourings⟩)
    (hb_c_colourings : PySem.W.codeIn KB cd_colourings "colourings" = true)
    (hb_k_colourings : PySem.W.keepIn KB (.ref f_colourings) = true)
    (hb_l_recipes_of_drops : KB.lookup f_recipes_of_drops = some ⟨oc_recipes_of_drops, od_recipes_of_drops, .func (PySem.W.fnOf "recipes_of_drops" "recipes_of_drops" (defArgs s_recipes_of_drops) (defBody s_recipes_of_drops) (defScope s_recipes_of_drops) .none kV_recipes_of_drops dc_recipes_of_drops pm_recipes_of_drops an_recipes_of_drops cd_recipes_of_drops ct_recipes_of_drops), sl_recipes_of_drops⟩)
    (hb_c_recipes_of_drops : PySem.W.codeIn KB cd_recipes_of_drops "recipes_of_drops" = true)
    (hb_k_recipes_of_drops : PySem.W.keepIn KB (.ref f_recipes_of_drops) = true)
    (hb_l_origins_of : KB.lookup f_origins_of = some ⟨oc_origins_of, od_origins_of, .func (PySem.W.fnOf "origins_of" "origins_of" (defArgs s_origins_of) (defBody s_origins_of) (defScope s_origins_of) .none kV_origins_of dc_origins_of pm_origins_of an_origins_of cd_origins_of ct_origins_of), sl_origins_of⟩)
    (hb_c_origins_of : PySem.W.codeIn KB cd_origins_of "origins_of" = true)
    (hb_k_origins_of : PySem.W.keepIn KB (.ref f_origins_of) = true)
    (hb_l_sources : KB.lookup f_sources = some ⟨oc_sources, od_sources, .func (PySem.W.fnOf "sources" "sources" (defArgs s_sources) (defBody s_sources) (defScope s_sources) .none kV_sources dc_sources pm_sources an_sources cd_sources ct_sources), sl_sources⟩)
    (hb_c_sources : PySem.W.codeIn KB cd_sources "sources" = true)
    (hb_k_sources : PySem.W.keepIn KB (.ref f_sources) = true)
    (hb_l_copies_of : KB.lookup f_copies_of = some ⟨oc_copies_of, od_copies_of, .func (PySem.W.fnOf "copies_of" "copies_of" (defArgs s_copies_of) (defBody s_copies_of) (defScope s_copies_of) .none kV_copies_of dc_copies_of pm_copies_of an_copies_of cd_copies_of ct_copies_of), sl_copies_of⟩)
    (hb_c_copies_of : PySem.W.codeIn KB cd_copies_of "copies_of" = true)
    (hb_k_copies_of : PySem.W.keepIn KB (.ref f_copies_of) = true)
    (hb_l_lost : KB.lookup f_lost = some ⟨oc_lost, od_lost, .func (PySem.W.fnOf "lost" "lost" (defArgs s_lost) (defBody s_lost) (defScope s_lost) .none kV_lost dc_lost pm_lost an_lost cd_lost ct_lost), sl_lost⟩)
    (hb_c_lost : PySem.W.codeIn KB cd_lost "lost" = true)
    (hb_k_lost : PySem.W.keepIn KB (.ref f_lost) = true)
    (hb_l_shown : KB.lookup f_shown = some ⟨oc_shown, od_shown, .func (PySem.W.fnOf "shown" "shown" (defArgs s_shown) (defBody s_shown) (defScope s_shown) .none kV_shown dc_shown pm_shown an_shown cd_shown ct_shown), sl_shown⟩)
    (hb_c_shown : PySem.W.codeIn KB cd_shown "shown" = true)
    (hb_k_shown : PySem.W.keepIn KB (.ref f_shown) = true)
    (hb_l_outcome : KB.lookup f_outcome = some ⟨oc_outcome, od_outcome, .func (PySem.W.fnOf "outcome" "outcome" (defArgs s_outcome) (defBody s_outcome) (defScope s_outcome) .none kV_outcome dc_outcome pm_outcome an_outcome cd_outcome ct_outcome), sl_outcome⟩)
    (hb_c_outcome : PySem.W.codeIn KB cd_outcome "outcome" = true)
    (hb_k_outcome : PySem.W.keepIn KB (.ref f_outcome) = true)
    (hb_l_check_two : KB.lookup f_check_two = some ⟨oc_check_two, od_check_two, .func (PySem.W.fnOf "check_two" "check_two" (defArgs s_check_two) (defBody s_check_two) (defScope s_check_two) .none kV_check_two dc_check_two pm_check_two an_check_two cd_check_two ct_check_two), sl_check_two⟩)
    (hb_c_check_two : PySem.W.codeIn KB cd_check_two "check_two" = true)
    (hb_k_check_two : PySem.W.keepIn KB (.ref f_check_two) = true)
    (hb_l_are_alike : KB.lookup f_are_alike = some ⟨oc_are_alike, od_are_alike, .func (PySem.W.fnOf "are_alike" "are_alike" (defArgs s_are_alike) (defBody s_are_alike) (defScope s_are_alike) .none kV_are_alike dc_are_alike pm_are_alike an_are_alike cd_are_alike ct_are_alike), sl_are_alike⟩)
    (hb_c_are_alike : PySem.W.codeIn KB cd_are_alike "are_alike" = true)
    (hb_k_are_alike : PySem.W.keepIn KB (.ref f_are_alike) = true)
    (hb_l_alike : KB.lookup f_alike = some ⟨oc_alike, od_alike, .func (PySem.W.fnOf "alike" "alike" (defArgs s_alike) (defBody s_alike) (defScope s_alike) .none kV_alike dc_alike pm_alike an_alike cd_alike ct_alike), sl_alike⟩)
    (hb_c_alike : PySem.W.codeIn KB cd_alike "alike" = true)
    (hb_k_alike : PySem.W.keepIn KB (.ref f_alike) = true)
    (hb_l_texts : KB.lookup f_texts = some ⟨oc_texts, od_texts, .func (PySem.W.fnOf "texts" "texts" (defArgs s_texts) (defBody s_texts) (defScope s_texts) .none kV_texts dc_texts pm_texts an_texts cd_texts ct_texts), sl_texts⟩)
    (hb_c_texts : PySem.W.codeIn KB cd_texts "texts" = true)
    (hb_k_texts : PySem.W.keepIn KB (.ref f_texts) = true)
    (hb_l_parting_bath : KB.lookup f_parting_bath = some ⟨oc_parting_bath, od_parting_bath, .func (PySem.W.fnOf "parting_bath" "parting_bath" (defArgs s_parting_bath) (defBody s_parting_bath) (defScope s_parting_bath) .none kV_parting_bath dc_parting_bath pm_parting_bath an_parting_bath cd_parting_bath ct_parting_bath), sl_parting_bath⟩)
    (hb_c_parting_bath : PySem.W.codeIn KB cd_parting_bath "parting_bath" = true)
    (hb_k_parting_bath : PySem.W.keepIn KB (.ref f_parting_bath) = true)
    (hb_l_check_papers : KB.lookup f_check_papers = some ⟨oc_check_papers, od_check_papers, .func (PySem.W.fnOf "check_papers" "check_papers" (defArgs s_check_papers) (defBody s_check_papers) (defScope s_check_papers) .none kV_check_papers dc_check_papers pm_check_papers an_check_papers cd_check_papers ct_check_papers), sl_check_papers⟩)
    (hb_c_check_papers : PySem.W.codeIn KB cd_check_papers "check_papers" = true)
    (hb_k_check_papers : PySem.W.keepIn KB (.ref f_check_papers) = true)
    (hb_l_told : KB.lookup f_told = some ⟨oc_told, od_told, .func (PySem.W.fnOf "told" "told" (defArgs s_told) (defBody s_told) (defScope s_told) .none kV_told dc_told pm_told an_told cd_told ct_told), sl_told⟩)
    (hb_c_told : PySem.W.codeIn KB cd_told "told" = true)
    (hb_k_told : PySem.W.keepIn KB (.ref f_told) = true)
    (hb_l_plain : KB.lookup f_plain = some ⟨oc_plain, od_plain, .func (PySem.W.fnOf "plain" "plain" (defArgs s_plain) (defBody s_plain) (defScope s_plain) .none kV_plain dc_plain pm_plain an_plain cd_plain ct_plain), sl_plain⟩)
    (hb_c_plain : PySem.W.codeIn KB cd_plain "plain" = true)
    (hb_k_plain : PySem.W.keepIn KB (.ref f_plain) = true)
    (hb_l_turned_back : KB.lookup f_turned_back = some ⟨oc_turned_back, od_turned_back, .func (PySem.W.fnOf "turned_back" "turned_back" (defArgs s_turned_back) (defBody s_turned_back) (defScope s_turned_back) .none kV_turned_back dc_turned_back pm_turned_back an_turned_back cd_turned_back ct_turned_back), sl_turned_back⟩)
    (hb_c_turned_back : PySem.W.codeIn KB cd_turned_back "turned_back" = true)
    (hb_k_turned_back : PySem.W.keepIn KB (.ref f_turned_back) = true)
    (hb_l_short : KB.lookup f_short = some ⟨oc_short, od_short, .func (PySem.W.fnOf "short" "short" (defArgs s_short) (defBody s_short) (defScope s_short) .none kV_short dc_short pm_short an_short cd_short ct_short), sl_short⟩)
    (hb_c_short : PySem.W.codeIn KB cd_short "short" = true)
    (hb_k_short : PySem.W.keepIn KB (.ref f_short) = true)
    (hb_l_shortened : KB.lookup f_shortened = some ⟨oc_shortened, od_shortened, .func (PySem.W.fnOf "shortened" "shortened" (defArgs s_shortened) (defBody s_shortened) (defScope s_shortened) .none kV_shortened dc_shortened pm_shortened an_shortened cd_shortened ct_shortened), sl_shortened⟩)
    (hb_c_shortened : PySem.W.codeIn KB cd_shortened "shortened" = true)
    (hb_k_shortened : PySem.W.keepIn KB (.ref f_shortened) = true)
    (hb_l_undoing : KB.lookup f_undoing = some ⟨oc_undoing, od_undoing, .func (PySem.W.fnOf "undoing" "undoing" (defArgs s_undoing) (defBody s_undoing) (defScope s_undoing) .none kV_undoing dc_undoing pm_undoing an_undoing cd_undoing ct_undoing), sl_undoing⟩)
    (hb_c_undoing : PySem.W.codeIn KB cd_undoing "undoing" = true)
    (hb_k_undoing : PySem.W.keepIn KB (.ref f_undoing) = true)
    (hb_l__law_taken : KB.lookup f__law_taken = some ⟨oc__law_taken, od__law_taken, .func (PySem.W.fnOf "_law_taken" "_law_taken" (defArgs s__law_taken) (defBody s__law_taken) (defScope s__law_taken) .none kV__law_taken dc__law_taken pm__law_taken an__law_taken cd__law_taken ct__law_taken), sl__law_taken⟩)
    (hb_c__law_taken : PySem.W.codeIn KB cd__law_taken "_law_taken" = true)
    (hb_k__law_taken : PySem.W.keepIn KB (.ref f__law_taken) = true)
    (hb_l__law_raised : KB.lookup f__law_raised = some ⟨oc__law_raised, od__law_raised, .func (PySem.W.fnOf "_law_raised" "_law_raised" (defArgs s__law_raised) (defBody s__law_raised) (defScope s__law_raised) .none kV__law_raised dc__law_raised pm__law_raised an__law_raised cd__law_raised ct__law_raised), sl__law_raised⟩)
    (hb_c__law_raised : PySem.W.codeIn KB cd__law_raised "_law_raised" = true)
    (hb_k__law_raised : PySem.W.keepIn KB (.ref f__law_raised) = true)
    (hb_l__law_one : KB.lookup f__law_one = some ⟨oc__law_one, od__law_one, .func (PySem.W.fnOf "_law_one" "_law_one" (defArgs s__law_one) (defBody s__law_one) (defScope s__law_one) .none kV__law_one dc__law_one pm__law_one an__law_one cd__law_one ct__law_one), sl__law_one⟩)
    (hb_c__law_one : PySem.W.codeIn KB cd__law_one "_law_one" = true)
    (hb_k__law_one : PySem.W.keepIn KB (.ref f__law_one) = true)
    (hb_l__law_cross : KB.lookup f__law_cross = some ⟨oc__law_cross, od__law_cross, .func (PySem.W.fnOf "_law_cross" "_law_cross" (defArgs s__law_cross) (defBody s__law_cross) (defScope s__law_cross) .none kV__law_cross dc__law_cross pm__law_cross an__law_cross cd__law_cross ct__law_cross), sl__law_cross⟩)
    (hb_c__law_cross : PySem.W.codeIn KB cd__law_cross "_law_cross" = true)
    (hb_k__law_cross : PySem.W.keepIn KB (.ref f__law_cross) = true)
    (hb_l_law : KB.lookup f_law = some ⟨oc_law, od_law, .func (PySem.W.fnOf "law" "law" (defArgs s_law) (defBody s_law) (defScope s_law) .none kV_law dc_law pm_law an_law cd_law ct_law), sl_law⟩)
    (hb_c_law : PySem.W.codeIn KB cd_law "law" = true)
    (hb_k_law : PySem.W.keepIn KB (.ref f_law) = true)
    (h_z_ValueError : PySem.W.nsIn KB mainGlobals "ValueError" = some none)
    (h_z_all : PySem.W.nsIn KB mainGlobals "all" = some none)
    (h_z_bool : PySem.W.nsIn KB mainGlobals "bool" = some none)
    (h_z_enumerate : PySem.W.nsIn KB mainGlobals "enumerate" = some none)
    (h_z_int : PySem.W.nsIn KB mainGlobals "int" = some none)
    (h_z_isinstance : PySem.W.nsIn KB mainGlobals "isinstance" = some none)
    (h_z_len : PySem.W.nsIn KB mainGlobals "len" = some none)
    (h_z_list : PySem.W.nsIn KB mainGlobals "list" = some none)
    (h_z_max : PySem.W.nsIn KB mainGlobals "max" = some none)
    (h_z_range : PySem.W.nsIn KB mainGlobals "range" = some none)
    (h_z_set : PySem.W.nsIn KB mainGlobals "set" = some none)
    (h_z_sorted : PySem.W.nsIn KB mainGlobals "sorted" = some none)
    (h_z_str : PySem.W.nsIn KB mainGlobals "str" = some none)
    (h_z_sum : PySem.W.nsIn KB mainGlobals "sum" = some none)
    (h_z_tuple : PySem.W.nsIn KB mainGlobals "tuple" = some none)
    (h_z_zip : PySem.W.nsIn KB mainGlobals "zip" = some none)
    (h_x_CELL : PySem.W.nsIn KB mainGlobals "CELL" = some (some (.str "cell" tk_CELL)))
    (h_x_COMB : PySem.W.nsIn KB mainGlobals "COMB" = some (some (.str "comb" tk_COMB)))
    (h_x_DROP : PySem.W.nsIn KB mainGlobals "DROP" = some (some (.str "drop" tk_DROP)))
    (h_x_FEW_CELLS_fewest : PySem.W.nsIn KB mainGlobals "FEW_CELLS_fewest" = some (some (.int 6 tk_FEW_CELLS_fewest)))
    (h_x_FEW_CELLS_origins : PySem.W.nsIn KB mainGlobals "FEW_CELLS_origins" = some (some (.int 8 tk_FEW_CELLS_origins)))
    (h_x_LETTERS : PySem.W.nsIn KB mainGlobals "LETTERS" = some (some (.str "abcdefghijklmnopqrstuvwxyz" tk_LETTERS)))
    (h_x_MAX_CELLS : PySem.W.nsIn KB mainGlobals "MAX_CELLS" = some (some (.int 12 tk_MAX_CELLS)))
    (h_x_MAX_DEEDS : PySem.W.nsIn KB mainGlobals "MAX_DEEDS" = some (some (.int 12 tk_MAX_DEEDS)))
    (h_x_MAX_DROPS : PySem.W.nsIn KB mainGlobals "MAX_DROPS" = some (some (.int 3 tk_MAX_DROPS)))
    (h_x_MAX_SIDE : PySem.W.nsIn KB mainGlobals "MAX_SIDE" = some (some (.int 5 tk_MAX_SIDE)))
    (h_x_MAX_STRIDE : PySem.W.nsIn KB mainGlobals "MAX_STRIDE" = some (some (.int 9 tk_MAX_STRIDE)))
    (h_x_NOTHING : PySem.W.nsIn KB mainGlobals "NOTHING" = some (some (.str "." tk_NOTHING)))
    (h_x_PAPER : PySem.W.nsIn KB mainGlobals "PAPER" = some (some (.str "paper" tk_PAPER)))
    (h_x_PARTING : PySem.W.nsIn KB mainGlobals "PARTING" = some (some (.str "ab" tk_PARTING)))
    (h_x_RAKE : PySem.W.nsIn KB mainGlobals "RAKE" = some (some (.str "rake" tk_RAKE)))
    (h_x_UNTOLD : PySem.W.nsIn KB mainGlobals "UNTOLD" = some (some (.str "?" tk_UNTOLD)))
    (h_cv_law : cd_law = .ref cc_law)
    (hb_cl_law : KB.lookup cc_law = some ⟨.type "code", odd_law, .fields vsc_law, osc_law⟩)
    (h_cp_law : vsc_law[11]? = some (.ref tp_law))
    (h_ct2_law : ∃ file tf, vsc_law.getD 18 .none = .str file tf) (h_ct3_law : ∃ flags tg, vsc_law.getD 7 .none = .int flags tg) (h_ct4_law : ∃ inF, vsc_law.getD 9 .none = .bool inF) (h_ct5_law : ∃ text tt, vsc_law.getD 10 .none = .int text tt)
    (h_ne_law : cc_law ≠ tp_law)
    (hb_tb_law : KB.lookup tp_law = some { cls := .none, data := .fields #[] })
    (h_eg_InvalidRecipe : PySem.W.findIn (noTab [tp_law] KB) (.ref c_InvalidRecipe) "__getattribute__" = some (some (.builtin "BaseException.__getattribute__")))
    (h_ek_InvalidRecipe : PySem.W.findIn (noTab [tp_law] KB) (.ref c_InvalidRecipe) "__getattr__" = some none)
    (h_es_InvalidRecipe : PySem.W.subIn (noTab [tp_law] KB) (.ref c_InvalidRecipe) (.type "BaseException") = some true)
    (h_ed_InvalidRecipe : PySem.W.hasDictIn (noTab [tp_law] KB) c_InvalidRecipe = true)
    (h_ea_InvalidRecipe : PySem.W.findIn (noTab [tp_law] KB) (.ref c_InvalidRecipe) "__class__" = some (some (.builtin "object.__class__")))
    (h_en_InvalidRecipe : PySem.W.specialIn (noTab [tp_law] KB) (.builtin "object.__class__") "__get__" = some (some (.builtin "getset_descriptor.__get__")))
    (h_et_InvalidRecipe : PySem.W.takesIn (noTab [tp_law] KB) (.builtin "object.__class__") = some true)
    (h_em_InvalidRecipe : PySem.W.mroIn (noTab [tp_law] KB) c_InvalidRecipe (.type "object") = some true)
    (h_br_BathError : PySem.W.readsIn (noTab [tp_law] KB) c_BathError (.type "type") = true)
    (h_bs_BathError : PySem.W.specialIn (noTab [tp_law] KB) (.ref c_BathError) "__getattribute__" = some (some (.builtin "type.__getattribute__")))
    (h_bf_BathError : PySem.W.findCls (noTab [tp_law] KB) (.ref c_BathError) (.type "type") "__init__" = some (.val (.builtin "ValueError.__init__")))
    (h_xo_InvalidRecipe : oexB (noTab [tp_law] KB) c_InvalidRecipe = true)
    (h_xa_InvalidRecipe : PySem.W.findIn (noTab [tp_law] KB) (.ref c_InvalidRecipe) "__setattr__" = some (some (.builtin "object.__setattr__")))
    (h_xt_InvalidRecipe : PySem.W.typeIn (noTab [tp_law] KB) (.ref c_InvalidRecipe) = some (.type "type"))
    (h_kc_InvalidRecipe : PySem.W.keepIn (noTab [tp_law] KB) (.ref c_InvalidRecipe) = true)
    (h_xn_InvalidRecipe : PySem.W.findIn (noTab [tp_law] KB) (.ref c_InvalidRecipe) "index" = some none)
    (h_xm_InvalidRecipe : PySem.W.findIn (noTab [tp_law] KB) (.ref c_InvalidRecipe) "__init__" = some (some (.ref f_InvalidRecipeD_initD)))
    (h_xu_InvalidRecipe : PySem.W.typeIn (noTab [tp_law] KB) (.ref f_InvalidRecipeD_initD) = some (.type "function"))
    (h_exm_InvalidRecipe_BathError : PySem.W.exmOne (noTab [tp_law] KB) (.ref c_InvalidRecipe) (.ref c_BathError) = some true)
    (h_kit_InvalidRecipe_InvalidBath : PySem.W.kitOne (noTab [tp_law] KB) (.ref c_InvalidRecipe) (.ref c_InvalidBath) = some false)
    (h_kit_InvalidRecipe_InvalidCells : PySem.W.kitOne (noTab [tp_law] KB) (.ref c_InvalidRecipe) (.ref c_InvalidCells) = some false)
    (h_kit_InvalidRecipe_InvalidColours : PySem.W.kitOne (noTab [tp_law] KB) (.ref c_InvalidRecipe) (.ref c_InvalidColours) = some false)
    (h_kit_InvalidRecipe_InvalidDeed : PySem.W.kitOne (noTab [tp_law] KB) (.ref c_InvalidRecipe) (.ref c_InvalidDeed) = some false)
    (h_kit_InvalidRecipe_InvalidNumber : PySem.W.kitOne (noTab [tp_law] KB) (.ref c_InvalidRecipe) (.ref c_InvalidNumber) = some false)
    (h_kit_InvalidRecipe_InvalidPapers : PySem.W.kitOne (noTab [tp_law] KB) (.ref c_InvalidRecipe) (.ref c_InvalidPapers) = some false)
    (h_kit_InvalidRecipe_InvalidRecipe : PySem.W.kitOne (noTab [tp_law] KB) (.ref c_InvalidRecipe) (.ref c_InvalidRecipe) = some true)
    (h_kit_InvalidRecipe_InvalidSign : PySem.W.kitOne (noTab [tp_law] KB) (.ref c_InvalidRecipe) (.ref c_InvalidSign) = some false)
    (h_kit_InvalidRecipe_InvalidSize : PySem.W.kitOne (noTab [tp_law] KB) (.ref c_InvalidRecipe) (.ref c_InvalidSize) = some false)
    (h_kit_InvalidRecipe_NoDrop : PySem.W.kitOne (noTab [tp_law] KB) (.ref c_InvalidRecipe) (.ref c_NoDrop) = some false)
    (h_kit_InvalidRecipe_TooMany : PySem.W.kitOne (noTab [tp_law] KB) (.ref c_InvalidRecipe) (.ref c_TooMany) = some false)
    (h_kit_InvalidRecipe_UnknownCell : PySem.W.kitOne (noTab [tp_law] KB) (.ref c_InvalidRecipe) (.ref c_UnknownCell) = some false)
    (h_kit_InvalidRecipe_ValueError : PySem.W.kitOne (noTab [tp_law] KB) (.ref c_InvalidRecipe) (.type "ValueError") = some true)
    (h_m_BathD_initD : PySem.W.findIn (noTab [tp_law] KB) (.ref c_Bath) "__init__" = some (some (.ref f_BathD_initD)))
    (h_i_BathD_initD : PySem.W.isFn (noTab [tp_law] KB) (.ref f_BathD_initD) = true)
    (h_pa_Bath_width : PySem.W.findIn (noTab [tp_law] KB) (.ref c_Bath) "width" = some (some (.ref p_Bath_width)))
    (h_pr_Bath_width : PySem.W.recIn (noTab [tp_law] KB) p_Bath_width "property" = some (.ref f_Bath_width :: rest_Bath_width))
    (h_pg_Bath_width : PySem.W.specialIn (noTab [tp_law] KB) (.ref p_Bath_width) "__get__" = some (some (.builtin "property.__get__")))
    (h_pt_Bath_width : PySem.W.takesIn (noTab [tp_law] KB) (.ref p_Bath_width) = some true)
    (h_pa_Bath_height : PySem.W.findIn (noTab [tp_law] KB) (.ref c_Bath) "height" = some (some (.ref p_Bath_height)))
    (h_pr_Bath_height : PySem.W.recIn (noTab [tp_law] KB) p_Bath_height "property" = some (.ref f_Bath_height :: rest_Bath_height))
    (h_pg_Bath_height : PySem.W.specialIn (noTab [tp_law] KB) (.ref p_Bath_height) "__get__" = some (some (.builtin "property.__get__")))
    (h_pt_Bath_height : PySem.W.takesIn (noTab [tp_law] KB) (.ref p_Bath_height) = some true)
    (h_pa_Bath_cells : PySem.W.findIn (noTab [tp_law] KB) (.ref c_Bath) "cells" = some (some (.ref p_Bath_cells)))
    (h_pr_Bath_cells : PySem.W.recIn (noTab [tp_law] KB) p_Bath_cells "property" = some (.ref f_Bath_cells :: rest_Bath_cells))
    (h_pg_Bath_cells : PySem.W.specialIn (noTab [tp_law] KB) (.ref p_Bath_cells) "__get__" = some (some (.builtin "property.__get__")))
    (h_pt_Bath_cells : PySem.W.takesIn (noTab [tp_law] KB) (.ref p_Bath_cells) = some true)
    (h_m_BathD_lenD : PySem.W.findIn (noTab [tp_law] KB) (.ref c_Bath) "__len__" = some (some (.ref f_BathD_lenD)))
    (h_i_BathD_lenD : PySem.W.isFn (noTab [tp_law] KB) (.ref f_BathD_lenD) = true)
    (h_m_BathD_eqD : PySem.W.findIn (noTab [tp_law] KB) (.ref c_Bath) "__eq__" = some (some (.ref f_BathD_eqD)))
    (h_i_BathD_eqD : PySem.W.isFn (noTab [tp_law] KB) (.ref f_BathD_eqD) = true)
    (h_pg_Bath : PySem.W.plainGet (noTab [tp_law] KB) c_Bath Str.empty = true)
    (h_po_Bath : PySem.W.plainOver (noTab [tp_law] KB) c_Bath = true)
    (h_sa_Bath : PySem.W.findIn (noTab [tp_law] KB) (.ref c_Bath) "__setattr__" = some (some (.builtin "object.__setattr__")))
    (h_ic_Bath : PySem.W.isClsIn (noTab [tp_law] KB) c_Bath = true)
    (h_mk_Bath : PySem.W.makesIn (noTab [tp_law] KB) c_Bath = true)
    (h_kc_Bath : PySem.W.keepIn (noTab [tp_law] KB) (.ref c_Bath) = true)
    (h_fa_Bath_parts : PySem.W.findIn (noTab [tp_law] KB) (.ref c_Bath) "parts" = some (some (.ref s_Bath_parts)))
    (h_fg_Bath_parts : PySem.W.specialIn (noTab [tp_law] KB) (.ref s_Bath_parts) "__get__" = some (some (.builtin "member_descriptor.__get__")))
    (h_ft_Bath_parts : PySem.W.takesIn (noTab [tp_law] KB) (.ref s_Bath_parts) = some true)
    (h_fy_Bath_parts : PySem.W.typeIn (noTab [tp_law] KB) (.ref s_Bath_parts) = some (.type "member_descriptor"))
    (h_fi_Bath_parts : PySem.W.slotIn (noTab [tp_law] KB) s_Bath_parts c_Bath = some 0)
    (h_ca_Bath : PySem.W.findIn (noTab [tp_law] KB) (.ref c_Bath) "__class__" = some (some (.builtin "object.__class__")))
    (h_cn_Bath : PySem.W.specialIn (noTab [tp_law] KB) (.builtin "object.__class__") "__get__" = some (some (.builtin "getset_descriptor.__get__")))
    (h_ct_Bath : PySem.W.takesIn (noTab [tp_law] KB) (.builtin "object.__class__") = some true)
    (h_cm_Bath : PySem.W.mroIn (noTab [tp_law] KB) c_Bath (.type "object") = some true)
    (h_ki_Bath : PySem.W.kitOne (noTab [tp_law] KB) (.ref c_Bath) (.ref c_Bath) = some true)
    (h_m_TrayD_initD : PySem.W.findIn (noTab [tp_law] KB) (.ref c_Tray) "__init__" = some (some (.ref f_TrayD_initD)))
    (h_i_TrayD_initD : PySem.W.isFn (noTab [tp_law] KB) (.ref f_TrayD_initD) = true)
    (h_m_Tray_do : PySem.W.findIn (noTab [tp_law] KB) (.ref c_Tray) "do" = some (some (.ref f_Tray_do)))
    (h_i_Tray_do : PySem.W.isFn (noTab [tp_law] KB) (.ref f_Tray_do) = true)
    (h_pg_Tray : PySem.W.plainGet (noTab [tp_law] KB) c_Tray Str.empty = true)
    (h_po_Tray : PySem.W.plainOver (noTab [tp_law] KB) c_Tray = true)
    (h_sa_Tray : PySem.W.findIn (noTab [tp_law] KB) (.ref c_Tray) "__setattr__" = some (some (.builtin "object.__setattr__")))
    (h_hd_Tray : PySem.W.hasDictIn (noTab [tp_law] KB) c_Tray = true)
    (h_mk_Tray : PySem.W.makesIn (noTab [tp_law] KB) c_Tray = true)
    (h_kc_Tray : PySem.W.keepIn (noTab [tp_law] KB) (.ref c_Tray) = true)
    (h_fa_Tray_size : PySem.W.findIn (noTab [tp_law] KB) (.ref c_Tray) "size" = some none)
    (h_fa_Tray_things : PySem.W.findIn (noTab [tp_law] KB) (.ref c_Tray) "things" = some none)
    (h_fa_Tray_papers : PySem.W.findIn (noTab [tp_law] KB) (.ref c_Tray) "papers" = some none)
    (h_m_RoundsD_initD : PySem.W.findIn (noTab [tp_law] KB) (.ref c_Rounds) "__init__" = some (some (.ref f_RoundsD_initD)))
    (h_i_RoundsD_initD : PySem.W.isFn (noTab [tp_law] KB) (.ref f_RoundsD_initD) = true)
    (h_m_Rounds_at : PySem.W.findIn (noTab [tp_law] KB) (.ref c_Rounds) "at" = some (some (.ref f_Rounds_at)))
    (h_i_Rounds_at : PySem.W.isFn (noTab [tp_law] KB) (.ref f_Rounds_at) = true)
    (h_pg_Rounds : PySem.W.plainGet (noTab [tp_law] KB) c_Rounds Str.empty = true)
    (h_po_Rounds : PySem.W.plainOver (noTab [tp_law] KB) c_Rounds = true)
    (h_sa_Rounds : PySem.W.findIn (noTab [tp_law] KB) (.ref c_Rounds) "__setattr__" = some (some (.builtin "object.__setattr__")))
    (h_hd_Rounds : PySem.W.hasDictIn (noTab [tp_law] KB) c_Rounds = true)
    (h_mk_Rounds : PySem.W.makesIn (noTab [tp_law] KB) c_Rounds = true)
    (h_kc_Rounds : PySem.W.keepIn (noTab [tp_law] KB) (.ref c_Rounds) = true)
    (h_fa_Rounds_rows : PySem.W.findIn (noTab [tp_law] KB) (.ref c_Rounds) "rows" = some none)
    (h_fa_Rounds_begin : PySem.W.findIn (noTab [tp_law] KB) (.ref c_Rounds) "begin" = some none)
    (h_l_InvalidRecipeD_initD : (noTab [tp_law] KB).lookup f_InvalidRecipeD_initD = some ⟨oc_InvalidRecipeD_initD, od_InvalidRecipeD_initD, .func (PySem.W.fnOf "__init__" "InvalidRecipe.__init__" (defArgs s_InvalidRecipeD_initD) (defBody s_InvalidRecipeD_initD) (defScope s_InvalidRecipeD_initD) .none kV_InvalidRecipeD_initD dc_InvalidRecipeD_initD pm_InvalidRecipeD_initD an_InvalidRecipeD_initD cd_InvalidRecipeD_initD ct_InvalidRecipeD_initD), sl_InvalidRecipeD_initD⟩)
    (h_c_InvalidRecipeD_initD : PySem.W.codeIn (noTab [tp_law] KB) cd_InvalidRecipeD_initD "InvalidRecipe.__init__" = true)
    (h_k_InvalidRecipeD_initD : PySem.W.keepIn (noTab [tp_law] KB) (.ref f_InvalidRecipeD_initD) = true)
    (h_l_is_number : (noTab [tp_law] KB).lookup f_is_number = some ⟨oc_is_number, od_is_number, .func (PySem.W.fnOf "is_number" "is_number" (defArgs s_is_number) (defBody s_is_number) (defScope s_is_number) .none kV_is_number dc_is_number pm_is_number an_is_number cd_is_number ct_is_number), sl_is_number⟩)
    (h_c_is_number : PySem.W.codeIn (noTab [tp_law] KB) cd_is_number "is_number" = true)
    (h_k_is_number : PySem.W.keepIn (noTab [tp_law] KB) (.ref f_is_number) = true)
    (h_l_is_letter : (noTab [tp_law] KB).lookup f_is_letter = some ⟨oc_is_letter, od_is_letter, .func (PySem.W.fnOf "is_letter" "is_letter" (defArgs s_is_letter) (defBody s_is_letter) (defScope s_is_letter) .none kV_is_letter dc_is_letter pm_is_letter an_is_letter cd_is_letter ct_is_letter), sl_is_letter⟩)
    (h_c_is_letter : PySem.W.codeIn (noTab [tp_law] KB) cd_is_letter "is_letter" = true)
    (h_k_is_letter : PySem.W.keepIn (noTab [tp_law] KB) (.ref f_is_letter) = true)
    (h_l_are_signs : (noTab [tp_law] KB).lookup f_are_signs = some ⟨oc_are_signs, od_are_signs, .func (PySem.W.fnOf "are_signs" "are_signs" (defArgs s_are_signs) (defBody s_are_signs) (defScope s_are_signs) .none kV_are_signs dc_are_signs pm_are_signs an_are_signs cd_are_signs ct_are_signs), sl_are_signs⟩)
    (h_c_are_signs : PySem.W.codeIn (noTab [tp_law] KB) cd_are_signs "are_signs" = true)
    (h_k_are_signs : PySem.W.keepIn (noTab [tp_law] KB) (.ref f_are_signs) = true)
    (h_l_is_size : (noTab [tp_law] KB).lookup f_is_size = some ⟨oc_is_size, od_is_size, .func (PySem.W.fnOf "is_size" "is_size" (defArgs s_is_size) (defBody s_is_size) (defScope s_is_size) .none kV_is_size dc_is_size pm_is_size an_is_size cd_is_size ct_is_size), sl_is_size⟩)
    (h_c_is_size : PySem.W.codeIn (noTab [tp_law] KB) cd_is_size "is_size" = true)
    (h_k_is_size : PySem.W.keepIn (noTab [tp_law] KB) (.ref f_is_size) = true)
    (h_l_check_size : (noTab [tp_law] KB).lookup f_check_size = some ⟨oc_check_size, od_check_size, .func (PySem.W.fnOf "check_size" "check_size" (defArgs s_check_size) (defBody s_check_size) (defScope s_check_size) .none kV_check_size dc_check_size pm_check_size an_check_size cd_check_size ct_check_size), sl_check_size⟩)
    (h_c_check_size : PySem.W.codeIn (noTab [tp_law] KB) cd_check_size "check_size" = true)
    (h_k_check_size : PySem.W.keepIn (noTab [tp_law] KB) (.ref f_check_size) = true)
    (h_l_BathD_initD : (noTab [tp_law] KB).lookup f_BathD_initD = some ⟨oc_BathD_initD, od_BathD_initD, .func (PySem.W.fnOf "__init__" "Bath.__init__" (defArgs s_BathD_initD) (defBody s_BathD_initD) (defScope s_BathD_initD) .none kV_BathD_initD dc_BathD_initD pm_BathD_initD an_BathD_initD cd_BathD_initD ct_BathD_initD), sl_BathD_initD⟩)
    (h_c_BathD_initD : PySem.W.codeIn (noTab [tp_law] KB) cd_BathD_initD "Bath.__init__" = true)
    (h_k_BathD_initD : PySem.W.keepIn (noTab [tp_law] KB) (.ref f_BathD_initD) = true)
    (h_l_Bath_width : (noTab [tp_law] KB).lookup f_Bath_width = some ⟨oc_Bath_width, od_Bath_width, .func (PySem.W.fnOf "width" "Bath.width" (defArgs s_Bath_width) (defBody s_Bath_width) (defScope s_Bath_width) .none kV_Bath_width dc_Bath_width pm_Bath_width an_Bath_width cd_Bath_width ct_Bath_width), sl_Bath_width⟩)
    (h_c_Bath_width : PySem.W.codeIn (noTab [tp_law] KB) cd_Bath_width "Bath.width" = true)
    (h_k_Bath_width : PySem.W.keepIn (noTab [tp_law] KB) (.ref f_Bath_width) = true)
    (h_l_Bath_height : (noTab [tp_law] KB).lookup f_Bath_height = some ⟨oc_Bath_height, od_Bath_height, .func (PySem.W.fnOf "height" "Bath.height" (defArgs s_Bath_height) (defBody s_Bath_height) (defScope s_Bath_height) .none kV_Bath_height dc_Bath_height pm_Bath_height an_Bath_height cd_Bath_height ct_Bath_height), sl_Bath_height⟩)
    (h_c_Bath_height : PySem.W.codeIn (noTab [tp_law] KB) cd_Bath_height "Bath.height" = true)
    (h_k_Bath_height : PySem.W.keepIn (noTab [tp_law] KB) (.ref f_Bath_height) = true)
    (h_l_Bath_cells : (noTab [tp_law] KB).lookup f_Bath_cells = some ⟨oc_Bath_cells, od_Bath_cells, .func (PySem.W.fnOf "cells" "Bath.cells" (defArgs s_Bath_cells) (defBody s_Bath_cells) (defScope s_Bath_cells) .none kV_Bath_cells dc_Bath_cells pm_Bath_cells an_Bath_cells cd_Bath_cells ct_Bath_cells), sl_Bath_cells⟩)
    (h_c_Bath_cells : PySem.W.codeIn (noTab [tp_law] KB) cd_Bath_cells "Bath.cells" = true)
    (h_k_Bath_cells : PySem.W.keepIn (noTab [tp_law] KB) (.ref f_Bath_cells) = true)
    (h_l_BathD_lenD : (noTab [tp_law] KB).lookup f_BathD_lenD = some ⟨oc_BathD_lenD, od_BathD_lenD, .func (PySem.W.fnOf "__len__" "Bath.__len__" (defArgs s_BathD_lenD) (defBody s_BathD_lenD) (defScope s_BathD_lenD) .none kV_BathD_lenD dc_BathD_lenD pm_BathD_lenD an_BathD_lenD cd_BathD_lenD ct_BathD_lenD), sl_BathD_lenD⟩)
    (h_c_BathD_lenD : PySem.W.codeIn (noTab [tp_law] KB) cd_BathD_lenD "Bath.__len__" = true)
    (h_k_BathD_lenD : PySem.W.keepIn (noTab [tp_law] KB) (.ref f_BathD_lenD) = true)
    (h_l_BathD_eqD : (noTab [tp_law] KB).lookup f_BathD_eqD = some ⟨oc_BathD_eqD, od_BathD_eqD, .func (PySem.W.fnOf "__eq__" "Bath.__eq__" (defArgs s_BathD_eqD) (defBody s_BathD_eqD) (defScope s_BathD_eqD) .none kV_BathD_eqD dc_BathD_eqD pm_BathD_eqD an_BathD_eqD cd_BathD_eqD ct_BathD_eqD), sl_BathD_eqD⟩)
    (h_c_BathD_eqD : PySem.W.codeIn (noTab [tp_law] KB) cd_BathD_eqD "Bath.__eq__" = true)
    (h_k_BathD_eqD : PySem.W.keepIn (noTab [tp_law] KB) (.ref f_BathD_eqD) = true)
    (h_l_are_strides : (noTab [tp_law] KB).lookup f_are_strides = some ⟨oc_are_strides, od_are_strides, .func (PySem.W.fnOf "are_strides" "are_strides" (defArgs s_are_strides) (defBody s_are_strides) (defScope s_are_strides) .none kV_are_strides dc_are_strides pm_are_strides an_are_strides cd_are_strides ct_are_strides), sl_are_strides⟩)
    (h_c_are_strides : PySem.W.codeIn (noTab [tp_law] KB) cd_are_strides "are_strides" = true)
    (h_k_are_strides : PySem.W.keepIn (noTab [tp_law] KB) (.ref f_are_strides) = true)
    (h_l_are_cells : (noTab [tp_law] KB).lookup f_are_cells = some ⟨oc_are_cells, od_are_cells, .func (PySem.W.fnOf "are_cells" "are_cells" (defArgs s_are_cells) (defBody s_are_cells) (defScope s_are_cells) .none kV_are_cells dc_are_cells pm_are_cells an_are_cells cd_are_cells ct_are_cells), sl_are_cells⟩)
    (h_c_are_cells : PySem.W.codeIn (noTab [tp_law] KB) cd_are_cells "are_cells" = true)
    (h_k_are_cells : PySem.W.keepIn (noTab [tp_law] KB) (.ref f_are_cells) = true)
    (h_l_is_draw : (noTab [tp_law] KB).lookup f_is_draw = some ⟨oc_is_draw, od_is_draw, .func (PySem.W.fnOf "is_draw" "is_draw" (defArgs s_is_draw) (defBody s_is_draw) (defScope s_is_draw) .none kV_is_draw dc_is_draw pm_is_draw an_is_draw cd_is_draw ct_is_draw), sl_is_draw⟩)
    (h_c_is_draw : PySem.W.codeIn (noTab [tp_law] KB) cd_is_draw "is_draw" = true)
    (h_k_is_draw : PySem.W.keepIn (noTab [tp_law] KB) (.ref f_is_draw) = true)
    (h_l_is_deed : (noTab [tp_law] KB).lookup f_is_deed = some ⟨oc_is_deed, od_is_deed, .func (PySem.W.fnOf "is_deed" "is_deed" (defArgs s_is_deed) (defBody s_is_deed) (defScope s_is_deed) .none kV_is_deed dc_is_deed pm_is_deed an_is_deed cd_is_deed ct_is_deed), sl_is_deed⟩)
    (h_c_is_deed : PySem.W.codeIn (noTab [tp_law] KB) cd_is_deed "is_deed" = true)
    (h_k_is_deed : PySem.W.keepIn (noTab [tp_law] KB) (.ref f_is_deed) = true)
    (h_l_check_recipe : (noTab [tp_law] KB).lookup f_check_recipe = some ⟨oc_check_recipe, od_check_recipe, .func (PySem.W.fnOf "check_recipe" "check_recipe" (defArgs s_check_recipe) (defBody s_check_recipe) (defScope s_check_recipe) .none kV_check_recipe dc_check_recipe pm_check_recipe an_check_recipe cd_check_recipe ct_check_recipe), sl_check_recipe⟩)
    (h_c_check_recipe : PySem.W.codeIn (noTab [tp_law] KB) cd_check_recipe "check_recipe" = true)
    (h_k_check_recipe : PySem.W.keepIn (noTab [tp_law] KB) (.ref f_check_recipe) = true)
    (h_l_drawn : (noTab [tp_law] KB).lookup f_drawn = some ⟨oc_drawn, od_drawn, .func (PySem.W.fnOf "drawn" "drawn" (defArgs s_drawn) (defBody s_drawn) (defScope s_drawn) .none kV_drawn dc_drawn pm_drawn an_drawn cd_drawn ct_drawn), sl_drawn⟩)
    (h_c_drawn : PySem.W.codeIn (noTab [tp_law] KB) cd_drawn "drawn" = true)
    (h_k_drawn : PySem.W.keepIn (noTab [tp_law] KB) (.ref f_drawn) = true)
    (h_l_pushed : (noTab [tp_law] KB).lookup f_pushed = some ⟨oc_pushed, od_pushed, .func (PySem.W.fnOf "pushed" "pushed" (defArgs s_pushed) (defBody s_pushed) (defScope s_pushed) .none kV_pushed dc_pushed pm_pushed an_pushed cd_pushed ct_pushed), sl_pushed⟩)
    (h_c_pushed : PySem.W.codeIn (noTab [tp_law] KB) cd_pushed "pushed" = true)
    (h_k_pushed : PySem.W.keepIn (noTab [tp_law] KB) (.ref f_pushed) = true)
    (h_l_TrayD_initD : (noTab [tp_law] KB).lookup f_TrayD_initD = some ⟨oc_TrayD_initD, od_TrayD_initD, .func (PySem.W.fnOf "__init__" "Tray.__init__" (defArgs s_TrayD_initD) (defBody s_TrayD_initD) (defScope s_TrayD_initD) .none kV_TrayD_initD dc_TrayD_initD pm_TrayD_initD an_TrayD_initD cd_TrayD_initD ct_TrayD_initD), sl_TrayD_initD⟩)
    (h_c_TrayD_initD : PySem.W.codeIn (noTab [tp_law] KB) cd_TrayD_initD "Tray.__init__" = true)
    (h_k_TrayD_initD : PySem.W.keepIn (noTab [tp_law] KB) (.ref f_TrayD_initD) = true)
    (h_l_Tray_do : (noTab [tp_law] KB).lookup f_Tray_do = some ⟨oc_Tray_do, od_Tray_do, .func (PySem.W.fnOf "do" "Tray.do" (defArgs s_Tray_do) (defBody s_Tray_do) (defScope s_Tray_do) .none kV_Tray_do dc_Tray_do pm_Tray_do an_Tray_do cd_Tray_do ct_Tray_do), sl_Tray_do⟩)
    (h_c_Tray_do : PySem.W.codeIn (noTab [tp_law] KB) cd_Tray_do "Tray.do" = true)
    (h_k_Tray_do : PySem.W.keepIn (noTab [tp_law] KB) (.ref f_Tray_do) = true)
    (h_l_all_steps : (noTab [tp_law] KB).lookup f_all_steps = some ⟨oc_all_steps, od_all_steps, .func (PySem.W.fnOf "all_steps" "all_steps" (defArgs s_all_steps) (defBody s_all_steps) (defScope s_all_steps) .none kV_all_steps dc_all_steps pm_all_steps an_all_steps cd_all_steps ct_all_steps), sl_all_steps⟩)
    (h_c_all_steps : PySem.W.codeIn (noTab [tp_law] KB) cd_all_steps "all_steps" = true)
    (h_k_all_steps : PySem.W.keepIn (noTab [tp_law] KB) (.ref f_all_steps) = true)
    (h_l_done : (noTab [tp_law] KB).lookup f_done = some ⟨oc_done, od_done, .func (PySem.W.fnOf "done" "done" (defArgs s_done) (defBody s_done) (defScope s_done) .none kV_done dc_done pm_done an_done cd_done ct_done), sl_done⟩)
    (h_c_done : PySem.W.codeIn (noTab [tp_law] KB) cd_done "done" = true)
    (h_k_done : PySem.W.keepIn (noTab [tp_law] KB) (.ref f_done) = true)
    (h_l_check_cell : (noTab [tp_law] KB).lookup f_check_cell = some ⟨oc_check_cell, od_check_cell, .func (PySem.W.fnOf "check_cell" "check_cell" (defArgs s_check_cell) (defBody s_check_cell) (defScope s_check_cell) .none kV_check_cell dc_check_cell pm_check_cell an_check_cell cd_check_cell ct_check_cell), sl_check_cell⟩)
    (h_c_check_cell : PySem.W.codeIn (noTab [tp_law] KB) cd_check_cell "check_cell" = true)
    (h_k_check_cell : PySem.W.keepIn (noTab [tp_law] KB) (.ref f_check_cell) = true)
    (h_l_ahead_of : (noTab [tp_law] KB).lookup f_ahead_of = some ⟨oc_ahead_of, od_ahead_of, .func (PySem.W.fnOf "ahead_of" "ahead_of" (defArgs s_ahead_of) (defBody s_ahead_of) (defScope s_ahead_of) .none kV_ahead_of dc_ahead_of pm_ahead_of an_ahead_of cd_ahead_of ct_ahead_of), sl_ahead_of⟩)
    (h_c_ahead_of : PySem.W.codeIn (noTab [tp_law] KB) cd_ahead_of "ahead_of" = true)
    (h_k_ahead_of : PySem.W.keepIn (noTab [tp_law] KB) (.ref f_ahead_of) = true)
    (h_l_last_drops : (noTab [tp_law] KB).lookup f_last_drops = some ⟨oc_last_drops, od_last_drops, .func (PySem.W.fnOf "last_drops" "last_drops" (defArgs s_last_drops) (defBody s_last_drops) (defScope s_last_drops) .none kV_last_drops dc_last_drops pm_last_drops an_last_drops cd_last_drops ct_last_drops), sl_last_drops⟩)
    (h_c_last_drops : PySem.W.codeIn (noTab [tp_law] KB) cd_last_drops "last_drops" = true)
    (h_k_last_drops : PySem.W.keepIn (noTab [tp_law] KB) (.ref f_last_drops) = true)
    (h_l_check_colours : (noTab [tp_law] KB).lookup f_check_colours = some ⟨oc_check_colours, od_check_colours, .func (PySem.W.fnOf "check_colours" "check_colours" (defArgs s_check_colours) (defBody s_check_colours) (defScope s_check_colours) .none kV_check_colours dc_check_colours pm_check_colours an_check_colours cd_check_colours ct_check_colours), sl_check_colours⟩)
    (h_c_check_colours : PySem.W.codeIn (noTab [tp_law] KB) cd_check_colours "check_colours" = true)
    (h_k_check_colours : PySem.W.keepIn (noTab [tp_law] KB) (.ref f_check_colours) = true)
    (h_l_known_ahead : (noTab [tp_law] KB).lookup f_known_ahead = some ⟨oc_known_ahead, od_known_ahead, .func (PySem.W.fnOf "known_ahead" "known_ahead" (defArgs s_known_ahead) (defBody s_known_ahead) (defScope s_known_ahead) .none kV_known_ahead dc_known_ahead pm_known_ahead an_known_ahead cd_known_ahead ct_known_ahead), sl_known_ahead⟩)
    (h_c_known_ahead : PySem.W.codeIn (noTab [tp_law] KB) cd_known_ahead "known_ahead" = true)
    (h_k_known_ahead : PySem.W.keepIn (noTab [tp_law] KB) (.ref f_known_ahead) = true)
    (h_l_fits : (noTab [tp_law] KB).lookup f_fits = some ⟨oc_fits, od_fits, .func (PySem.W.fnOf "fits" "fits" (defArgs s_fits) (defBody s_fits) (defScope s_fits) .none kV_fits dc_fits pm_fits an_fits cd_fits ct_fits), sl_fits⟩)
    (h_c_fits : PySem.W.codeIn (noTab [tp_law] KB) cd_fits "fits" = true)
    (h_k_fits : PySem.W.keepIn (noTab [tp_law] KB) (.ref f_fits) = true)
    (h_l_ahead_count : (noTab [tp_law] KB).lookup f_ahead_count = some ⟨oc_ahead_count, od_ahead_count, .func (PySem.W.fnOf "ahead_count" "ahead_count" (defArgs s_ahead_count) (defBody s_ahead_count) (defScope s_ahead_count) .none kV_ahead_count dc_ahead_count pm_ahead_count an_ahead_count cd_ahead_count ct_ahead_count), sl_ahead_count⟩)
    (h_c_ahead_count : PySem.W.codeIn (noTab [tp_law] KB) cd_ahead_count "ahead_count" = true)
    (h_k_ahead_count : PySem.W.keepIn (noTab [tp_law] KB) (.ref f_ahead_count) = true)
    (h_l_first_ahead : (noTab [tp_law] KB).lookup f_first_ahead = some ⟨oc_first_ahead, od_first_ahead, .func (PySem.W.fnOf "first_ahead" "first_ahead" (defArgs s_first_ahead) (defBody s_first_ahead) (defScope s_first_ahead) .none kV_first_ahead dc_first_ahead pm_first_ahead an_first_ahead cd_first_ahead ct_first_ahead), sl_first_ahead⟩)
    (h_c_first_ahead : PySem.W.codeIn (noTab [tp_law] KB) cd_first_ahead "first_ahead" = true)
    (h_k_first_ahead : PySem.W.keepIn (noTab [tp_law] KB) (.ref f_first_ahead) = true)
    (h_l_RoundsD_initD : (noTab [tp_law] KB).lookup f_RoundsD_initD = some ⟨oc_RoundsD_initD, od_RoundsD_initD, .func (PySem.W.fnOf "__init__" "Rounds.__init__" (defArgs s_RoundsD_initD) (defBody s_RoundsD_initD) (defScope s_RoundsD_initD) .none kV_RoundsD_initD dc_RoundsD_initD pm_RoundsD_initD an_RoundsD_initD cd_RoundsD_initD ct_RoundsD_initD), sl_RoundsD_initD⟩)
    (h_c_RoundsD_initD : PySem.W.codeIn (noTab [tp_law] KB) cd_RoundsD_initD "Rounds.__init__" = true)
    (h_k_RoundsD_initD : PySem.W.keepIn (noTab [tp_law] KB) (.ref f_RoundsD_initD) = true)
    (h_l_Rounds_at : (noTab [tp_law] KB).lookup f_Rounds_at = some ⟨oc_Rounds_at, od_Rounds_at, .func (PySem.W.fnOf "at" "Rounds.at" (defArgs s_Rounds_at) (defBody s_Rounds_at) (defScope s_Rounds_at) .none kV_Rounds_at dc_Rounds_at pm_Rounds_at an_Rounds_at cd_Rounds_at ct_Rounds_at), sl_Rounds_at⟩)
    (h_c_Rounds_at : PySem.W.codeIn (noTab [tp_law] KB) cd_Rounds_at "Rounds.at" = true)
    (h_k_Rounds_at : PySem.W.keepIn (noTab [tp_law] KB) (.ref f_Rounds_at) = true)
    (h_l_period : (noTab [tp_law] KB).lookup f_period = some ⟨oc_period, od_period, .func (PySem.W.fnOf "period" "period" (defArgs s_period) (defBody s_period) (defScope s_period) .none kV_period dc_period pm_period an_period cd_period ct_period), sl_period⟩)
    (h_c_period : PySem.W.codeIn (noTab [tp_law] KB) cd_period "period" = true)
    (h_k_period : PySem.W.keepIn (noTab [tp_law] KB) (.ref f_period) = true)
    (h_l_check_few : (noTab [tp_law] KB).lookup f_check_few = some ⟨oc_check_few, od_check_few, .func (PySem.W.fnOf "check_few" "check_few" (defArgs s_check_few) (defBody s_check_few) (defScope s_check_few) .none kV_check_few dc_check_few pm_check_few an_check_few cd_check_few ct_check_few), sl_check_few⟩)
    (h_c_check_few : PySem.W.codeIn (noTab [tp_law] KB) cd_check_few "check_few" = true)
    (h_k_check_few : PySem.W.keepIn (noTab [tp_law] KB) (.ref f_check_few) = true)
    (h_l_check_cells : (noTab [tp_law] KB).lookup f_check_cells = some ⟨oc_check_cells, od_check_cells, .func (PySem.W.fnOf "check_cells" "check_cells" (defArgs s_check_cells) (defBody s_check_cells) (defScope s_check_cells) .none kV_check_cells dc_check_cells pm_check_cells an_check_cells cd_check_cells ct_check_cells), sl_check_cells⟩)
    (h_c_check_cells : PySem.W.codeIn (noTab [tp_law] KB) cd_check_cells "check_cells" = true)
    (h_k_check_cells : PySem.W.keepIn (noTab [tp_law] KB) (.ref f_check_cells) = true)
    (h_l_all_strides : (noTab [tp_law] KB).lookup f_all_strides = some ⟨oc_all_strides, od_all_strides, .func (PySem.W.fnOf "all_strides" "all_strides" (defArgs s_all_strides) (defBody s_all_strides) (defScope s_all_strides) .none kV_all_strides dc_all_strides pm_all_strides an_all_strides cd_all_strides ct_all_strides), sl_all_strides⟩)
    (h_c_all_strides : PySem.W.codeIn (noTab [tp_law] KB) cd_all_strides "all_strides" = true)
    (h_k_all_strides : PySem.W.keepIn (noTab [tp_law] KB) (.ref f_all_strides) = true)
    (h_l_all_draws : (noTab [tp_law] KB).lookup f_all_draws = some ⟨oc_all_draws, od_all_draws, .func (PySem.W.fnOf "all_draws" "all_draws" (defArgs s_all_draws) (defBody s_all_draws) (defScope s_all_draws) .none kV_all_draws dc_all_draws pm_all_draws an_all_draws cd_all_draws ct_all_draws), sl_all_draws⟩)
    (h_c_all_draws : PySem.W.codeIn (noTab [tp_law] KB) cd_all_draws "all_draws" = true)
    (h_k_all_draws : PySem.W.keepIn (noTab [tp_law] KB) (.ref f_all_draws) = true)
    (h_l_draw_levels : (noTab [tp_law] KB).lookup f_draw_levels = some ⟨oc_draw_levels, od_draw_levels, .func (PySem.W.fnOf "draw_levels" "draw_levels" (defArgs s_draw_levels) (defBody s_draw_levels) (defScope s_draw_levels) .none kV_draw_levels dc_draw_levels pm_draw_levels an_draw_levels cd_draw_levels ct_draw_levels), sl_draw_levels⟩)
    (h_c_draw_levels : PySem.W.codeIn (noTab [tp_law] KB) cd_draw_levels "draw_levels" = true)
    (h_k_draw_levels : PySem.W.keepIn (noTab [tp_law] KB) (.ref f_draw_levels) = true)
    (h_l_draw_count : (noTab [tp_law] KB).lookup f_draw_count = some ⟨oc_draw_count, od_draw_count, .func (PySem.W.fnOf "draw_count" "draw_count" (defArgs s_draw_count) (defBody s_draw_count) (defScope s_draw_count) .none kV_draw_count dc_draw_count pm_draw_count an_draw_count cd_draw_count ct_draw_count), sl_draw_count⟩)
    (h_c_draw_count : PySem.W.codeIn (noTab [tp_law] KB) cd_draw_count "draw_count" = true)
    (h_k_draw_count : PySem.W.keepIn (noTab [tp_law] KB) (.ref f_draw_count) = true)
    (h_l_fewest_draws : (noTab [tp_law] KB).lookup f_fewest_draws = some ⟨oc_fewest_draws, od_fewest_draws, .func (PySem.W.fnOf "fewest_draws" "fewest_draws" (defArgs s_fewest_draws) (defBody s_fewest_draws) (defScope s_fewest_draws) .none kV_fewest_draws dc_fewest_draws pm_fewest_draws an_fewest_draws cd_fewest_draws ct_fewest_draws), sl_fewest_draws⟩)
    (h_c_fewest_draws : PySem.W.codeIn (noTab [tp_law] KB) cd_fewest_draws "fewest_draws" = true)
    (h_k_fewest_draws : PySem.W.keepIn (noTab [tp_law] KB) (.ref f_fewest_draws) = true)
    (h_l_check_drops : (noTab [tp_law] KB).lookup f_check_drops = some ⟨oc_check_drops, od_check_drops, .func (PySem.W.fnOf "check_drops" "check_drops" (defArgs s_check_drops) (defBody s_check_drops) (defScope s_check_drops) .none kV_check_drops dc_check_drops pm_check_drops an_check_drops cd_check_drops ct_check_drops), sl_check_drops⟩)
    (h_c_check_drops : PySem.W.codeIn (noTab [tp_law] KB) cd_check_drops "check_drops" = true)
    (h_k_check_drops : PySem.W.keepIn (noTab [tp_law] KB) (.ref f_check_drops) = true)
    (h_l_dropped : (noTab [tp_law] KB).lookup f_dropped = some ⟨oc_dropped, od_dropped, .func (PySem.W.fnOf "dropped" "dropped" (defArgs s_dropped) (defBody s_dropped) (defScope s_dropped) .none kV_dropped dc_dropped pm_dropped an_dropped cd_dropped ct_dropped), sl_dropped⟩)
    (h_c_dropped : PySem.W.codeIn (noTab [tp_law] KB) cd_dropped "dropped" = true)
    (h_k_dropped : PySem.W.keepIn (noTab [tp_law] KB) (.ref f_dropped) = true)
    (h_l_first_way : (noTab [tp_law] KB).lookup f_first_way = some ⟨oc_first_way, od_first_way, .func (PySem.W.fnOf "first_way" "first_way" (defArgs s_first_way) (defBody s_first_way) (defScope s_first_way) .none kV_first_way dc_first_way pm_first_way an_first_way cd_first_way ct_first_way), sl_first_way⟩)
    (h_c_first_way : PySem.W.codeIn (noTab [tp_law] KB) cd_first_way "first_way" = true)
    (h_k_first_way : PySem.W.keepIn (noTab [tp_law] KB) (.ref f_first_way) = true)
    (h_l_first_drops : (noTab [tp_law] KB).lookup f_first_drops = some ⟨oc_first_drops, od_first_drops, .func (PySem.W.fnOf "first_drops" "first_drops" (defArgs s_first_drops) (defBody s_first_drops) (defScope s_first_drops) .none kV_first_drops dc_first_drops pm_first_drops an_first_drops cd_first_drops ct_first_drops), sl_first_drops⟩)
    (h_c_first_drops : PySem.W.codeIn (noTab [tp_law] KB) cd_first_drops "first_drops" = true)
    (h_k_first_drops : PySem.W.keepIn (noTab [tp_law] KB) (.ref f_first_drops) = true)
    (h_l_fewest_drops : (noTab [tp_law] KB).lookup f_fewest_drops = some ⟨oc_fewest_drops, od_fewest_drops, .func (PySem.W.fnOf "fewest_drops" "fewest_drops" (defArgs s_fewest_drops) (defBody s_fewest_drops) (defScope s_fewest_drops) .none kV_fewest_drops dc_fewest_drops pm_fewest_drops an_fewest_drops cd_fewest_drops ct_fewest_drops), sl_fewest_drops⟩)
    (h_c_fewest_drops : PySem.W.codeIn (noTab [tp_law] KB) cd_fewest_drops "fewest_drops" = true)
    (h_k_fewest_drops : PySem.W.keepIn (noTab [tp_law] KB) (.ref f_fewest_drops) = true)
    (h_l_choices : (noTab [tp_law] KB).lookup f_choices = some ⟨oc_choices, od_choices, .func (PySem.W.fnOf "choices" "choices" (defArgs s_choices) (defBody s_choices) (defScope s_choices) .none kV_choices dc_choices pm_choices an_choices cd_choices ct_choices), sl_choices⟩)
    (h_c_choices : PySem.W.codeIn (noTab [tp_law] KB) cd_choices "choices" = true)
    (h_k_choices : PySem.W.keepIn (noTab [tp_law] KB) (.ref f_choices) = true)
    (h_l_colourings : (noTab [tp_law] KB).lookup f_colourings = some ⟨oc_colourings, od_colourings, .func (PySem.W.fnOf "colourings" "colourings" (defArgs s_colourings) (defBody s_colourings) (defScope s_colourings) .none kV_colourings dc_colourings pm_colourings an_colourings cd_colourings ct_colourings), sl_colourings⟩)
    (h_c_colourings : PySem.W.codeIn (noTab [tp_law] KB) cd_colourings "colourings" = true)
    (h_k_colourings : PySem.W.keepIn (noTab [tp_law] KB) (.ref f_colourings) = true)
    (h_l_recipes_of_drops : (noTab [tp_law] KB).lookup f_recipes_of_drops = some ⟨oc_recipes_of_drops, od_recipes_of_drops, .func (PySem.W.fnOf "recipes_of_drops" "recipes_of_drops" (defArgs s_recipes_of_drops) (defBody s_recipes_of_drops) (defScope s_recipes_of_drops) .none kV_recipes_of_drops dc_recipes_of_drops pm_recipes_of_drops an_recipes_of_drops cd_recipes_of_drops ct_recipes_of_drops), sl_recipes_of_drops⟩)
    (h_c_recipes_of_drops : PySem.W.codeIn (noTab [tp_law] KB) cd_recipes_of_drops "recipes_of_drops" = true)
    (h_k_recipes_of_drops : PySem.W.keepIn (noTab [tp_law] KB) (.ref f_recipes_of_drops) = true)
    (h_l_origins_of : (noTab [tp_law] KB).lookup f_origins_of = some ⟨oc_origins_of, od_origins_of, .func (PySem.W.fnOf "origins_of" "origins_of" (defArgs s_origins_of) (defBody s_origins_of) (defScope s_origins_of) .none kV_origins_of dc_origins_of pm_origins_of an_origins_of cd_origins_of ct_origins_of), sl_origins_of⟩)
    (h_c_origins_of : PySem.W.codeIn (noTab [tp_law] KB) cd_origins_of "origins_of" = true)
    (h_k_origins_of : PySem.W.keepIn (noTab [tp_law] KB) (.ref f_origins_of) = true)
    (h_l_sources : (noTab [tp_law] KB).lookup f_sources = some ⟨oc_sources, od_sources, .func (PySem.W.fnOf "sources" "sources" (defArgs s_sources) (defBody s_sources) (defScope s_sources) .none kV_sources dc_sources pm_sources an_sources cd_sources ct_sources), sl_sources⟩)
    (h_c_sources : PySem.W.codeIn (noTab [tp_law] KB) cd_sources "sources" = true)
    (h_k_sources : PySem.W.keepIn (noTab [tp_law] KB) (.ref f_sources) = true)
    (h_l_copies_of : (noTab [tp_law] KB).lookup f_copies_of = some ⟨oc_copies_of, od_copies_of, .func (PySem.W.fnOf "copies_of" "copies_of" (defArgs s_copies_of) (defBody s_copies_of) (defScope s_copies_of) .none kV_copies_of dc_copies_of pm_copies_of an_copies_of cd_copies_of ct_copies_of), sl_copies_of⟩)
    (h_c_copies_of : PySem.W.codeIn (noTab [tp_law] KB) cd_copies_of "copies_of" = true)
    (h_k_copies_of : PySem.W.keepIn (noTab [tp_law] KB) (.ref f_copies_of) = true)
    (h_l_lost : (noTab [tp_law] KB).lookup f_lost = some ⟨oc_lost, od_lost, .func (PySem.W.fnOf "lost" "lost" (defArgs s_lost) (defBody s_lost) (defScope s_lost) .none kV_lost dc_lost pm_lost an_lost cd_lost ct_lost), sl_lost⟩)
    (h_c_lost : PySem.W.codeIn (noTab [tp_law] KB) cd_lost "lost" = true)
    (h_k_lost : PySem.W.keepIn (noTab [tp_law] KB) (.ref f_lost) = true)
    (h_l_shown : (noTab [tp_law] KB).lookup f_shown = some ⟨oc_shown, od_shown, .func (PySem.W.fnOf "shown" "shown" (defArgs s_shown) (defBody s_shown) (defScope s_shown) .none kV_shown dc_shown pm_shown an_shown cd_shown ct_shown), sl_shown⟩)
    (h_c_shown : PySem.W.codeIn (noTab [tp_law] KB) cd_shown "shown" = true)
    (h_k_shown : PySem.W.keepIn (noTab [tp_law] KB) (.ref f_shown) = true)
    (h_l_outcome : (noTab [tp_law] KB).lookup f_outcome = some ⟨oc_outcome, od_outcome, .func (PySem.W.fnOf "outcome" "outcome" (defArgs s_outcome) (defBody s_outcome) (defScope s_outcome) .none kV_outcome dc_outcome pm_outcome an_outcome cd_outcome ct_outcome), sl_outcome⟩)
    (h_c_outcome : PySem.W.codeIn (noTab [tp_law] KB) cd_outcome "outcome" = true)
    (h_k_outcome : PySem.W.keepIn (noTab [tp_law] KB) (.ref f_outcome) = true)
    (h_l_check_two : (noTab [tp_law] KB).lookup f_check_two = some ⟨oc_check_two, od_check_two, .func (PySem.W.fnOf "check_two" "check_two" (defArgs s_check_two) (defBody s_check_two) (defScope s_check_two) .none kV_check_two dc_check_two pm_check_two an_check_two cd_check_two ct_check_two), sl_check_two⟩)
    (h_c_check_two : PySem.W.codeIn (noTab [tp_law] KB) cd_check_two "check_two" = true)
    (h_k_check_two : PySem.W.keepIn (noTab [tp_law] KB) (.ref f_check_two) = true)
    (h_l_are_alike : (noTab [tp_law] KB).lookup f_are_alike = some ⟨oc_are_alike, od_are_alike, .func (PySem.W.fnOf "are_alike" "are_alike" (defArgs s_are_alike) (defBody s_are_alike) (defScope s_are_alike) .none kV_are_alike dc_are_alike pm_are_alike an_are_alike cd_are_alike ct_are_alike), sl_are_alike⟩)
    (h_c_are_alike : PySem.W.codeIn (noTab [tp_law] KB) cd_are_alike "are_alike" = true)
    (h_k_are_alike : PySem.W.keepIn (noTab [tp_law] KB) (.ref f_are_alike) = true)
    (h_l_alike : (noTab [tp_law] KB).lookup f_alike = some ⟨oc_alike, od_alike, .func (PySem.W.fnOf "alike" "alike" (defArgs s_alike) (defBody s_alike) (defScope s_alike) .none kV_alike dc_alike pm_alike an_alike cd_alike ct_alike), sl_alike⟩)
    (h_c_alike : PySem.W.codeIn (noTab [tp_law] KB) cd_alike "alike" = true)
    (h_k_alike : PySem.W.keepIn (noTab [tp_law] KB) (.ref f_alike) = true)
    (h_l_texts : (noTab [tp_law] KB).lookup f_texts = some ⟨oc_texts, od_texts, .func (PySem.W.fnOf "texts" "texts" (defArgs s_texts) (defBody s_texts) (defScope s_texts) .none kV_texts dc_texts pm_texts an_texts cd_texts ct_texts), sl_texts⟩)
    (h_c_texts : PySem.W.codeIn (noTab [tp_law] KB) cd_texts "texts" = true)
    (h_k_texts : PySem.W.keepIn (noTab [tp_law] KB) (.ref f_texts) = true)
    (h_l_parting_bath : (noTab [tp_law] KB).lookup f_parting_bath = some ⟨oc_parting_bath, od_parting_bath, .func (PySem.W.fnOf "parting_bath" "parting_bath" (defArgs s_parting_bath) (defBody s_parting_bath) (defScope s_parting_bath) .none kV_parting_bath dc_parting_bath pm_parting_bath an_parting_bath cd_parting_bath ct_parting_bath), sl_parting_bath⟩)
    (h_c_parting_bath : PySem.W.codeIn (noTab [tp_law] KB) cd_parting_bath "parting_bath" = true)
    (h_k_parting_bath : PySem.W.keepIn (noTab [tp_law] KB) (.ref f_parting_bath) = true)
    (h_l_check_papers : (noTab [tp_law] KB).lookup f_check_papers = some ⟨oc_check_papers, od_check_papers, .func (PySem.W.fnOf "check_papers" "check_papers" (defArgs s_check_papers) (defBody s_check_papers) (defScope s_check_papers) .none kV_check_papers dc_check_papers pm_check_papers an_check_papers cd_check_papers ct_check_papers), sl_check_papers⟩)
    (h_c_check_papers : PySem.W.codeIn (noTab [tp_law] KB) cd_check_papers "check_papers" = true)
    (h_k_check_papers : PySem.W.keepIn (noTab [tp_law] KB) (.ref f_check_papers) = true)
    (h_l_told : (noTab [tp_law] KB).lookup f_told = some ⟨oc_told, od_told, .func (PySem.W.fnOf "told" "told" (defArgs s_told) (defBody s_told) (defScope s_told) .none kV_told dc_told pm_told an_told cd_told ct_told), sl_told⟩)
    (h_c_told : PySem.W.codeIn (noTab [tp_law] KB) cd_told "told" = true)
    (h_k_told : PySem.W.keepIn (noTab [tp_law] KB) (.ref f_told) = true)
    (h_l_plain : (noTab [tp_law] KB).lookup f_plain = some ⟨oc_plain, od_plain, .func (PySem.W.fnOf "plain" "plain" (defArgs s_plain) (defBody s_plain) (defScope s_plain) .none kV_plain dc_plain pm_plain an_plain cd_plain ct_plain), sl_plain⟩)
    (h_c_plain : PySem.W.codeIn (noTab [tp_law] KB) cd_plain "plain" = true)
    (h_k_plain : PySem.W.keepIn (noTab [tp_law] KB) (.ref f_plain) = true)
    (h_l_turned_back : (noTab [tp_law] KB).lookup f_turned_back = some ⟨oc_turned_back, od_turned_back, .func (PySem.W.fnOf "turned_back" "turned_back" (defArgs s_turned_back) (defBody s_turned_back) (defScope s_turned_back) .none kV_turned_back dc_turned_back pm_turned_back an_turned_back cd_turned_back ct_turned_back), sl_turned_back⟩)
    (h_c_turned_back : PySem.W.codeIn (noTab [tp_law] KB) cd_turned_back "turned_back" = true)
    (h_k_turned_back : PySem.W.keepIn (noTab [tp_law] KB) (.ref f_turned_back) = true)
    (h_l_short : (noTab [tp_law] KB).lookup f_short = some ⟨oc_short, od_short, .func (PySem.W.fnOf "short" "short" (defArgs s_short) (defBody s_short) (defScope s_short) .none kV_short dc_short pm_short an_short cd_short ct_short), sl_short⟩)
    (h_c_short : PySem.W.codeIn (noTab [tp_law] KB) cd_short "short" = true)
    (h_k_short : PySem.W.keepIn (noTab [tp_law] KB) (.ref f_short) = true)
    (h_l_shortened : (noTab [tp_law] KB).lookup f_shortened = some ⟨oc_shortened, od_shortened, .func (PySem.W.fnOf "shortened" "shortened" (defArgs s_shortened) (defBody s_shortened) (defScope s_shortened) .none kV_shortened dc_shortened pm_shortened an_shortened cd_shortened ct_shortened), sl_shortened⟩)
    (h_c_shortened : PySem.W.codeIn (noTab [tp_law] KB) cd_shortened "shortened" = true)
    (h_k_shortened : PySem.W.keepIn (noTab [tp_law] KB) (.ref f_shortened) = true)
    (h_l_undoing : (noTab [tp_law] KB).lookup f_undoing = some ⟨oc_undoing, od_undoing, .func (PySem.W.fnOf "undoing" "undoing" (defArgs s_undoing) (defBody s_undoing) (defScope s_undoing) .none kV_undoing dc_undoing pm_undoing an_undoing cd_undoing ct_undoing), sl_undoing⟩)
    (h_c_undoing : PySem.W.codeIn (noTab [tp_law] KB) cd_undoing "undoing" = true)
    (h_k_undoing : PySem.W.keepIn (noTab [tp_law] KB) (.ref f_undoing) = true)
    (h_l__law_taken : (noTab [tp_law] KB).lookup f__law_taken = some ⟨oc__law_taken, od__law_taken, .func (PySem.W.fnOf "_law_taken" "_law_taken" (defArgs s__law_taken) (defBody s__law_taken) (defScope s__law_taken) .none kV__law_taken dc__law_taken pm__law_taken an__law_taken cd__law_taken ct__law_taken), sl__law_taken⟩)
    (h_c__law_taken : PySem.W.codeIn (noTab [tp_law] KB) cd__law_taken "_law_taken" = true)
    (h_k__law_taken : PySem.W.keepIn (noTab [tp_law] KB) (.ref f__law_taken) = true)
    (h_l__law_raised : (noTab [tp_law] KB).lookup f__law_raised = some ⟨oc__law_raised, od__law_raised, .func (PySem.W.fnOf "_law_raised" "_law_raised" (defArgs s__law_raised) (defBody s__law_raised) (defScope s__law_raised) .none kV__law_raised dc__law_raised pm__law_raised an__law_raised cd__law_raised ct__law_raised), sl__law_raised⟩)
    (h_c__law_raised : PySem.W.codeIn (noTab [tp_law] KB) cd__law_raised "_law_raised" = true)
    (h_k__law_raised : PySem.W.keepIn (noTab [tp_law] KB) (.ref f__law_raised) = true)
    (h_l__law_one : (noTab [tp_law] KB).lookup f__law_one = some ⟨oc__law_one, od__law_one, .func (PySem.W.fnOf "_law_one" "_law_one" (defArgs s__law_one) (defBody s__law_one) (defScope s__law_one) .none kV__law_one dc__law_one pm__law_one an__law_one cd__law_one ct__law_one), sl__law_one⟩)
    (h_c__law_one : PySem.W.codeIn (noTab [tp_law] KB) cd__law_one "_law_one" = true)
    (h_k__law_one : PySem.W.keepIn (noTab [tp_law] KB) (.ref f__law_one) = true)
    (h_l__law_cross : (noTab [tp_law] KB).lookup f__law_cross = some ⟨oc__law_cross, od__law_cross, .func (PySem.W.fnOf "_law_cross" "_law_cross" (defArgs s__law_cross) (defBody s__law_cross) (defScope s__law_cross) .none kV__law_cross dc__law_cross pm__law_cross an__law_cross cd__law_cross ct__law_cross), sl__law_cross⟩)
    (h_c__law_cross : PySem.W.codeIn (noTab [tp_law] KB) cd__law_cross "_law_cross" = true)
    (h_k__law_cross : PySem.W.keepIn (noTab [tp_law] KB) (.ref f__law_cross) = true)
    (h_l_law : (noTab [tp_law] KB).lookup f_law = some ⟨oc_law, od_law, .func (PySem.W.fnOf "law" "law" (defArgs s_law) (defBody s_law) (defScope s_law) .none kV_law dc_law pm_law an_law cd_law ct_law), sl_law⟩)
    (h_c_law : PySem.W.codeIn (noTab [tp_law] KB) cd_law "law" = true)
    (h_k_law : PySem.W.keepIn (noTab [tp_law] KB) (.ref f_law) = true)
    (h_nol : noList (noTab [tp_law] KB) = true)
    : ∃ K : PySem.W.Frag, K.In h ∧ ∃ (fd : FuncData) (cs : List (Addr × Addr)) (sp : Sp), (∀ p ∈ cs, h.get? p.2 = some { cls := .none, data := .fields #[] }) ∧ (∀ p ∈ cs, K.lookup p.2 = none) ∧ (∀ p ∈ cs, PySem.W.CodeHd h p.1 p.2) ∧ (∀ (s : Shared) (u : Value), BindsTo s fd ⟨[u], []⟩ [("_law_script", u)]) ∧
      (∀ (H : Hp) (a : Addr) (ns : List Int), (∀ p ∈ cs, H p.2 = some (.tbl #[])) → SqL K H a (ns.map V.int) → sp [.ref a] H (fun v _ => v = .bl true) fun _ _ _ => False) ∧
      ∀ base : Heap, K.In base → base.Ns mainGlobals mg → (∀ p ∈ cs, LamX.TabB base mg p.1 p.2) → FnOk P w K mg base (CX P w) 11 fa fd ["_law_script"] sp := by
  have e := hfa.symm.trans (PySem.W.mg_of X Gn h_a_law)
  cases e
  have G : ∀ base : Heap, LamX.TabB base mg cc_law tp_law → Glb ⟨P, w, (noTab [tp_law] KB), mg, base⟩ ⟨f_InvalidRecipeD_initD, f_is_number, f_is_letter, f_are_signs, f_is_size, f_check_size, f_BathD_initD, f_Bath_width, f_Bath_height, f_Bath_cells, f_BathD_lenD, f_BathD_eqD, f_are_strides, f_are_cells, f_is_draw, f_is_deed, f_check_recipe, f_drawn, f_pushed, f_TrayD_initD, f_Tray_do, f_all_steps, f_done, f_check_cell, f_ahead_of, f_last_drops, f_check_colours, f_known_ahead, f_fits, f_ahead_count, f_first_ahead, f_RoundsD_initD, f_Rounds_at, f_period, f_check_few, f_check_cells, f_all_strides, f_all_draws, f_draw_levels, f_draw_count, f_fewest_draws, f_check_drops, f_dropped, f_first_way, f_first_drops, f_fewest_drops, f_choices, f_colourings, f_recipes_of_drops, f_origins_of, f_sources, f_copies_of, f_lost, f_shown, f_outcome, f_check_two, f_are_alike, f_alike, f_texts, f_parting_bath, f_check_papers, f_told, f_plain, f_turned_back, f_short, f_shortened, f_undoing, f__law_taken, f__law_raised, f__law_one, f__law_cross, fa, cc_law, tp_law, c_BathError, c_InvalidBath, c_InvalidSize, c_InvalidRecipe, c_UnknownCell, c_InvalidSign, c_InvalidDeed, c_InvalidCells, c_InvalidNumber, c_TooMany, c_InvalidColours, c_NoDrop, c_InvalidPapers, c_Bath, c_Tray, c_Rounds⟩ := fun base TB => {
    F_InvalidRecipeD_initD := ⟨_, fun_mk (st := s_InvalidRecipeD_initD) h_l_InvalidRecipeD_initD h_c_InvalidRecipeD_initD h_k_InvalidRecipeD_initD, (fun_mk (st := s_InvalidRecipeD_initD) h_l_InvalidRecipeD_initD h_c_InvalidRecipeD_initD h_k_InvalidRecipeD_initD).binds (ps := ["self", "index"]) fun _ _ _ _ _ _ us hl => match us, hl with | [_, _], _ => rfl⟩,
    F_is_number := ⟨_, fun_mk (st := s_is_number) h_l_is_number h_c_is_number h_k_is_number, (fun_mk (st := s_is_number) h_l_is_number h_c_is_number h_k_is_number).binds (ps := ["value", "smallest", "largest"]) fun _ _ _ _ _ _ us hl => match us, hl with | [_, _, _], _ => rfl⟩,
    g_is_number := PySem.W.mg_of X Gn h_a_is_number,
    F_is_letter := ⟨_, fun_mk (st := s_is_letter) h_l_is_letter h_c_is_letter h_k_is_letter, (fun_mk (st := s_is_letter) h_l_is_letter h_c_is_letter h_k_is_letter).binds (ps := ["value"]) fun _ _ _ _ _ _ us hl => match us, hl with | [_], _ => rfl⟩,
    g_is_letter := PySem.W.mg_of X Gn h_a_is_letter,
    F_are_signs := ⟨_, fun_mk (st := s_are_signs) h_l_are_signs h_c_are_signs h_k_are_signs, (fun_mk (st := s_are_signs) h_l_are_signs h_c_are_signs h_k_are_signs).binds (ps := ["size", "value"]) fun _ _ _ _ _ _ us hl => match us, hl with | [_, _], _ => rfl⟩,
    g_are_signs := PySem.W.mg_of X Gn h_a_are_signs,
    F_is_size := ⟨_, fun_mk (st := s_is_size) h_l_is_size h_c_is_size h_k_is_size, (fun_mk (st := s_is_size) h_l_is_size h_c_is_size h_k_is_size).binds (ps := ["width", "height"]) fun _ _ _ _ _ _ us hl => match us, hl with | [_, _], _ => rfl⟩,
    g_is_size := PySem.W.mg_of X Gn h_a_is_size,
    F_check_size := ⟨_, fun_mk (st := s_check_size) h_l_check_size h_c_check_size h_k_check_size, (fun_mk (st := s_check_size) h_l_check_size h_c_check_size h_k_check_size).binds (ps := ["width", "height"]) fun _ _ _ _ _ _ us hl => match us, hl with | [_, _], _ => rfl⟩,
    g_check_size := PySem.W.mg_of X Gn h_a_check_size,
    F_BathD_initD := ⟨_, fun_mk (st := s_BathD_initD) h_l_BathD_initD h_c_BathD_initD h_k_BathD_initD, (fun_mk (st := s_BathD_initD) h_l_BathD_initD h_c_BathD_initD h_k_BathD_initD).binds (ps := ["self", "width", "height", "cells"]) fun _ _ _ _ _ _ us hl => match us, hl with | [_, _, _, _], _ => rfl⟩,
    F_Bath_width := ⟨_, fun_mk (st := s_Bath_width) h_l_Bath_width h_c_Bath_width h_k_Bath_width, (fun_mk (st := s_Bath_width) h_l_Bath_width h_c_Bath_width h_k_Bath_width).binds (ps := ["self"]) fun _ _ _ _ _ _ us hl => match us, hl with | [_], _ => rfl⟩,
    F_Bath_height := ⟨_, fun_mk (st := s_Bath_height) h_l_Bath_height h_c_Bath_height h_k_Bath_height, (fun_mk (st := s_Bath_height) h_l_Bath_height h_c_Bath_height h_k_Bath_height).binds (ps := ["self"]) fun _ _ _ _ _ _ us hl => match us, hl with | [_], _ => rfl⟩,
    F_Bath_cells := ⟨_, fun_mk (st := s_Bath_cells) h_l_Bath_cells h_c_Bath_cells h_k_Bath_cells, (fun_mk (st := s_Bath_cells) h_l_Bath_cells h_c_Bath_cells h_k_Bath_cells).binds (ps := ["self"]) fun _ _ _ _ _ _ us hl => match us, hl with | [_], _ => rfl⟩,
    F_BathD_lenD := ⟨_, fun_mk (st := s_BathD_lenD) h_l_BathD_lenD h_c_BathD_lenD h_k_BathD_lenD, (fun_mk (st := s_BathD_lenD) h_l_BathD_lenD h_c_BathD_lenD h_k_BathD_lenD).binds (ps := ["self"]) fun _ _ _ _ _ _ us hl => match us, hl with | [_], _ => rfl⟩,
    F_BathD_eqD := ⟨_, fun_mk (st := s_BathD_eqD) h_l_BathD_eqD h_c_BathD_eqD h_k_BathD_eqD, (fun_mk (st := s_BathD_eqD) h_l_BathD_eqD h_c_BathD_eqD h_k_BathD_eqD).binds (ps := ["self", "other"]) fun _ _ _ _ _ _ us hl => match us, hl with | [_, _], _ => rfl⟩,
    F_are_strides := ⟨_, fun_mk (st := s_are_strides) h_l_are_strides h_c_are_strides h_k_are_strides, (fun_mk (st := s_are_strides) h_l_are_strides h_c_are_strides h_k_are_strides).binds (ps := ["value", "count"]) fun _ _ _ _ _ _ us hl => match us, hl with | [_, _], _ => rfl⟩,
    g_are_strides := PySem.W.mg_of X Gn h_a_are_strides,
    F_are_cells := ⟨_, fun_mk (st := s_are_cells) h_l_are_cells h_c_are_cells h_k_are_cells, (fun_mk (st := s_are_cells) h_l_are_cells h_c_are_cells h_k_are_cells).binds (ps := ["size", "value"]) fun _ _ _ _ _ _ us hl => match us, hl with | [_, _], _ => rfl⟩,
    g_are_cells := PySem.W.mg_of X Gn h_a_are_cells,
    F_is_draw := ⟨_, fun_mk (st := s_is_draw) h_l_is_draw h_c_is_draw h_k_is_draw, (fun_mk (st := s_is_draw) h_l_is_draw h_c_is_draw h_k_is_draw).binds (ps := ["width", "height", "value"]) fun _ _ _ _ _ _ us hl => match us, hl with | [_, _, _], _ => rfl⟩,
    g_is_draw := PySem.W.mg_of X Gn h_a_is_draw,
    F_is_deed := ⟨_, fun_mk (st := s_is_deed) h_l_is_deed h_c_is_deed h_k_is_deed, (fun_mk (st := s_is_deed) h_l_is_deed h_c_is_deed h_k_is_deed).binds (ps := ["width", "height", "value"]) fun _ _ _ _ _ _ us hl => match us, hl with | [_, _, _], _ => rfl⟩,
    g_is_deed := PySem.W.mg_of X Gn h_a_is_deed,
    F_check_recipe := ⟨_, fun_mk (st := s_check_recipe) h_l_check_recipe h_c_check_recipe h_k_check_recipe, (fun_mk (st := s_check_recipe) h_l_check_recipe h_c_check_recipe h_k_check_recipe).binds (ps := ["width", "height", "recipe"]) fun _ _ _ _ _ _ us hl => match us, hl with | [_, _, _], _ => rfl⟩,
    g_check_recipe := PySem.W.mg_of X Gn h_a_check_recipe,
    F_drawn := ⟨_, fun_mk (st := s_drawn) h_l_drawn h_c_drawn h_k_drawn, (fun_mk (st := s_drawn) h_l_drawn h_c_drawn h_k_drawn).binds (ps := ["width", "height", "deed"]) fun _ _ _ _ _ _ us hl => match us, hl with | [_, _, _], _ => rfl⟩,
    g_drawn := PySem.W.mg_of X Gn h_a_drawn,
    F_pushed := ⟨_, fun_mk (st := s_pushed) h_l_pushed h_c_pushed h_k_pushed, (fun_mk (st := s_pushed) h_l_pushed h_c_pushed h_k_pushed).binds (ps := ["width", "height", "cell"]) fun _ _ _ _ _ _ us hl => match us, hl with | [_, _, _], _ => rfl⟩,
    g_pushed := PySem.W.mg_of X Gn h_a_pushed,
    F_TrayD_initD := ⟨_, fun_mk (st := s_TrayD_initD) h_l_TrayD_initD h_c_TrayD_initD h_k_TrayD_initD, (fun_mk (st := s_TrayD_initD) h_l_TrayD_initD h_c_TrayD_initD h_k_TrayD_initD).binds (ps := ["self", "width", "height", "things"]) fun _ _ _ _ _ _ us hl => match us, hl with | [_, _, _, _], _ => rfl⟩,
    F_Tray_do := ⟨_, fun_mk (st := s_Tray_do) h_l_Tray_do h_c_Tray_do h_k_Tray_do, (fun_mk (st := s_Tray_do) h_l_Tray_do h_c_Tray_do h_k_Tray_do).binds (ps := ["self", "deed", "fresh"]) fun _ _ _ _ _ _ us hl => match us, hl with | [_, _, _], _ => rfl⟩,
    F_all_steps := ⟨_, fun_mk (st := s_all_steps) h_l_all_steps h_c_all_steps h_k_all_steps, (fun_mk (st := s_all_steps) h_l_all_steps h_c_all_steps h_k_all_steps).binds (ps := ["width", "height", "cells", "recipe"]) fun _ _ _ _ _ _ us hl => match us, hl with | [_, _, _, _], _ => rfl⟩,
    g_all_steps := PySem.W.mg_of X Gn h_a_all_steps,
    F_done := ⟨_, fun_mk (st := s_done) h_l_done h_c_done h_k_done, (fun_mk (st := s_done) h_l_done h_c_done h_k_done).binds (ps := ["bath", "recipe"]) fun _ _ _ _ _ _ us hl => match us, hl with | [_, _], _ => rfl⟩,
    g_done := PySem.W.mg_of X Gn h_a_done,
    F_check_cell := ⟨_, fun_mk (st := s_check_cell) h_l_check_cell h_c_check_cell h_k_check_cell, (fun_mk (st := s_check_cell) h_l_check_cell h_c_check_cell h_k_check_cell).binds (ps := ["bath", "cell"]) fun _ _ _ _ _ _ us hl => match us, hl with | [_, _], _ => rfl⟩,
    g_check_cell := PySem.W.mg_of X Gn h_a_check_cell,
    F_ahead_of := ⟨_, fun_mk (st := s_ahead_of) h_l_ahead_of h_c_ahead_of h_k_ahead_of, (fun_mk (st := s_ahead_of) h_l_ahead_of h_c_ahead_of h_k_ahead_of).binds (ps := ["bath", "cell"]) fun _ _ _ _ _ _ us hl => match us, hl with | [_, _], _ => rfl⟩,
    g_ahead_of := PySem.W.mg_of X Gn h_a_ahead_of,
    F_last_drops := ⟨_, fun_mk (st := s_last_drops) h_l_last_drops h_c_last_drops h_k_last_drops, (fun_mk (st := s_last_drops) h_l_last_drops h_c_last_drops h_k_last_drops).binds (ps := ["bath"]) fun _ _ _ _ _ _ us hl => match us, hl with | [_], _ => rfl⟩,
    g_last_drops := PySem.W.mg_of X Gn h_a_last_drops,
    F_check_colours := ⟨_, fun_mk (st := s_check_colours) h_l_check_colours h_c_check_colours h_k_check_colours, (fun_mk (st := s_check_colours) h_l_check_colours h_c_check_colours h_k_check_colours).binds (ps := ["colours"]) fun _ _ _ _ _ _ us hl => match us, hl with | [_], _ => rfl⟩,
    g_check_colours := PySem.W.mg_of X Gn h_a_check_colours,
    F_known_ahead := ⟨_, fun_mk (st := s_known_ahead) h_l_known_ahead h_c_known_ahead h_k_known_ahead, (fun_mk (st := s_known_ahead) h_l_known_ahead h_c_known_ahead h_k_known_ahead).binds (ps := ["bath", "cell", "colours"]) fun _ _ _ _ _ _ us hl => match us, hl with | [_, _, _], _ => rfl⟩,
    g_known_ahead := PySem.W.mg_of X Gn h_a_known_ahead,
    F_fits := ⟨_, fun_mk (st := s_fits) h_l_fits h_c_fits h_k_fits, (fun_mk (st := s_fits) h_l_fits h_c_fits h_k_fits).binds (ps := ["found", "colours"]) fun _ _ _ _ _ _ us hl => match us, hl with | [_, _], _ => rfl⟩,
    g_fits := PySem.W.mg_of X Gn h_a_fits,
    F_ahead_count := ⟨_, fun_mk (st := s_ahead_count) h_l_ahead_count h_c_ahead_count h_k_ahead_count, (fun_mk (st := s_ahead_count) h_l_ahead_count h_c_ahead_count h_k_ahead_count).binds (ps := ["bath", "cell", "colours"]) fun _ _ _ _ _ _ us hl => match us, hl with | [_, _, _], _ => rfl⟩,
    g_ahead_count := PySem.W.mg_of X Gn h_a_ahead_count,
    F_first_ahead := ⟨_, fun_mk (st := s_first_ahead) h_l_first_ahead h_c_first_ahead h_k_first_ahead, (fun_mk (st := s_first_ahead) h_l_first_ahead h_c_first_ahead h_k_first_ahead).binds (ps := ["bath", "cell", "colours"]) fun _ _ _ _ _ _ us hl => match us, hl with | [_, _, _], _ => rfl⟩,
    g_first_ahead := PySem.W.mg_of X Gn h_a_first_ahead,
    F_RoundsD_initD := ⟨_, fun_mk (st := s_RoundsD_initD) h_l_RoundsD_initD h_c_RoundsD_initD h_k_RoundsD_initD, (fun_mk (st := s_RoundsD_initD) h_l_RoundsD_initD h_c_RoundsD_initD h_k_RoundsD_initD).binds (ps := ["self", "bath", "recipe"]) fun _ _ _ _ _ _ us hl => match us, hl with | [_, _, _], _ => rfl⟩,
    F_Rounds_at := ⟨_, fun_mk (st := s_Rounds_at) h_l_Rounds_at h_c_Rounds_at h_k_Rounds_at, (fun_mk (st := s_Rounds_at) h_l_Rounds_at h_c_Rounds_at h_k_Rounds_at).binds (ps := ["self", "count"]) fun _ _ _ _ _ _ us hl => match us, hl with | [_, _], _ => rfl⟩,
    F_period := ⟨_, fun_mk (st := s_period) h_l_period h_c_period h_k_period, (fun_mk (st := s_period) h_l_period h_c_period h_k_period).binds (ps := ["bath", "recipe"]) fun _ _ _ _ _ _ us hl => match us, hl with | [_, _], _ => rfl⟩,
    g_period := PySem.W.mg_of X Gn h_a_period,
    F_check_few := ⟨_, fun_mk (st := s_check_few) h_l_check_few h_c_check_few h_k_check_few, (fun_mk (st := s_check_few) h_l_check_few h_c_check_few h_k_check_few).binds (ps := ["bath"]) fun _ _ _ _ _ _ us hl => match us, hl with | [_], _ => rfl⟩,
    g_check_few := PySem.W.mg_of X Gn h_a_check_few,
    F_check_cells := ⟨_, fun_mk (st := s_check_cells) h_l_check_cells h_c_check_cells h_k_check_cells, (fun_mk (st := s_check_cells) h_l_check_cells h_c_check_cells h_k_check_cells).binds (ps := ["bath", "cells"]) fun _ _ _ _ _ _ us hl => match us, hl with | [_, _], _ => rfl⟩,
    g_check_cells := PySem.W.mg_of X Gn h_a_check_cells,
    F_all_strides := ⟨_, fun_mk (st := s_all_strides) h_l_all_strides h_c_all_strides h_k_all_strides, (fun_mk (st := s_all_strides) h_l_all_strides h_c_all_strides h_k_all_strides).binds (ps := ["count", "length"]) fun _ _ _ _ _ _ us hl => match us, hl with | [_, _], _ => rfl⟩,
    g_all_strides := PySem.W.mg_of X Gn h_a_all_strides,
    F_all_draws := ⟨_, fun_mk (st := s_all_draws) h_l_all_draws h_c_all_draws h_k_all_draws, (fun_mk (st := s_all_draws) h_l_all_draws h_c_all_draws h_k_all_draws).binds (ps := ["bath"]) fun _ _ _ _ _ _ us hl => match us, hl with | [_], _ => rfl⟩,
    g_all_draws := PySem.W.mg_of X Gn h_a_all_draws,
    F_draw_levels := ⟨_, fun_mk (st := s_draw_levels) h_l_draw_levels h_c_draw_levels h_k_draw_levels, (fun_mk (st := s_draw_levels) h_l_draw_levels h_c_draw_levels h_k_draw_levels).binds (ps := ["bath"]) fun _ _ _ _ _ _ us hl => match us, hl with | [_], _ => rfl⟩,
    g_draw_levels := PySem.W.mg_of X Gn h_a_draw_levels,
    F_draw_count := ⟨_, fun_mk (st := s_draw_count) h_l_draw_count h_c_draw_count h_k_draw_count, (fun_mk (st := s_draw_count) h_l_draw_count h_c_draw_count h_k_draw_count).binds (ps := ["bath"]) fun _ _ _ _ _ _ us hl => match us, hl with | [_], _ => rfl⟩,
    g_draw_count := PySem.W.mg_of X Gn h_a_draw_count,
    F_fewest_draws := ⟨_, fun_mk (st := s_fewest_draws) h_l_fewest_draws h_c_fewest_draws h_k_fewest_draws, (fun_mk (st := s_fewest_draws) h_l_fewest_draws h_c_fewest_draws h_k_fewest_draws).binds (ps := ["bath", "cells"]) fun _ _ _ _ _ _ us hl => match us, hl with | [_, _], _ => rfl⟩,
    g_fewest_draws := PySem.W.mg_of X Gn h_a_fewest_draws,
    F_check_drops := ⟨_, fun_mk (st := s_check_drops) h_l_check_drops h_c_check_drops h_k_check_drops, (fun_mk (st := s_check_drops) h_l_check_drops h_c_check_drops h_k_check_drops).binds (ps := ["bath", "cells", "most"]) fun _ _ _ _ _ _ us hl => match us, hl with | [_, _, _], _ => rfl⟩,
    g_check_drops := PySem.W.mg_of X Gn h_a_check_drops,
    F_dropped := ⟨_, fun_mk (st := s_dropped) h_l_dropped h_c_dropped h_k_dropped, (fun_mk (st := s_dropped) h_l_dropped h_c_dropped h_k_dropped).binds (ps := ["bath", "cells", "cell", "colour"]) fun _ _ _ _ _ _ us hl => match us, hl with | [_, _, _, _], _ => rfl⟩,
    g_dropped := PySem.W.mg_of X Gn h_a_dropped,
    F_first_way := ⟨_, fun_mk (st := s_first_way) h_l_first_way h_c_first_way h_k_first_way, (fun_mk (st := s_first_way) h_l_first_way h_c_first_way h_k_first_way).binds (ps := ["bath", "cells", "goal", "count"]) fun _ _ _ _ _ _ us hl => match us, hl with | [_, _, _, _], _ => rfl⟩,
    g_first_way := PySem.W.mg_of X Gn h_a_first_way,
    F_first_drops := ⟨_, fun_mk (st := s_first_drops) h_l_first_drops h_c_first_drops h_k_first_drops, (fun_mk (st := s_first_drops) h_l_first_drops h_c_first_drops h_k_first_drops).binds (ps := ["bath", "cells", "most"]) fun _ _ _ _ _ _ us hl => match us, hl with | [_, _, _], _ => rfl⟩,
    g_first_drops := PySem.W.mg_of X Gn h_a_first_drops,
    F_fewest_drops := ⟨_, fun_mk (st := s_fewest_drops) h_l_fewest_drops h_c_fewest_drops h_k_fewest_drops, (fun_mk (st := s_fewest_drops) h_l_fewest_drops h_c_fewest_drops h_k_fewest_drops).binds (ps := ["bath", "cells", "most"]) fun _ _ _ _ _ _ us hl => match us, hl with | [_, _, _], _ => rfl⟩,
    g_fewest_drops := PySem.W.mg_of X Gn h_a_fewest_drops,
    F_choices := ⟨_, fun_mk (st := s_choices) h_l_choices h_c_choices h_k_choices, (fun_mk (st := s_choices) h_l_choices h_c_choices h_k_choices).binds (ps := ["size", "count"]) fun _ _ _ _ _ _ us hl => match us, hl with | [_, _], _ => rfl⟩,
    g_choices := PySem.W.mg_of X Gn h_a_choices,
    F_colourings := ⟨_, fun_mk (st := s_colourings) h_l_colourings h_c_colourings h_k_colourings, (fun_mk (st := s_colourings) h_l_colourings h_c_colourings h_k_colourings).binds (ps := ["bath", "row"]) fun _ _ _ _ _ _ us hl => match us, hl with | [_, _], _ => rfl⟩,
    g_colourings := PySem.W.mg_of X Gn h_a_colourings,
    F_recipes_of_drops := ⟨_, fun_mk (st := s_recipes_of_drops) h_l_recipes_of_drops h_c_recipes_of_drops h_k_recipes_of_drops, (fun_mk (st := s_recipes_of_drops) h_l_recipes_of_drops h_c_recipes_of_drops h_k_recipes_of_drops).binds (ps := ["bath", "count"]) fun _ _ _ _ _ _ us hl => match us, hl with | [_, _], _ => rfl⟩,
    g_recipes_of_drops := PySem.W.mg_of X Gn h_a_recipes_of_drops,
    F_origins_of := ⟨_, fun_mk (st := s_origins_of) h_l_origins_of h_c_origins_of h_k_origins_of, (fun_mk (st := s_origins_of) h_l_origins_of h_c_origins_of h_k_origins_of).binds (ps := ["width", "height", "recipe"]) fun _ _ _ _ _ _ us hl => match us, hl with | [_, _, _], _ => rfl⟩,
    g_origins_of := PySem.W.mg_of X Gn h_a_origins_of,
    F_sources := ⟨_, fun_mk (st := s_sources) h_l_sources h_c_sources h_k_sources, (fun_mk (st := s_sources) h_l_sources h_c_sources h_k_sources).binds (ps := ["width", "height", "recipe"]) fun _ _ _ _ _ _ us hl => match us, hl with | [_, _, _], _ => rfl⟩,
    g_sources := PySem.W.mg_of X Gn h_a_sources,
    F_copies_of := ⟨_, fun_mk (st := s_copies_of) h_l_copies_of h_c_copies_of h_k_copies_of, (fun_mk (st := s_copies_of) h_l_copies_of h_c_copies_of h_k_copies_of).binds (ps := ["width", "height", "recipe"]) fun _ _ _ _ _ _ us hl => match us, hl with | [_, _, _], _ => rfl⟩,
    g_copies_of := PySem.W.mg_of X Gn h_a_copies_of,
    F_lost := ⟨_, fun_mk (st := s_lost) h_l_lost h_c_lost h_k_lost, (fun_mk (st := s_lost) h_l_lost h_c_lost h_k_lost).binds (ps := ["width", "height", "recipe"]) fun _ _ _ _ _ _ us hl => match us, hl with | [_, _, _], _ => rfl⟩,
    g_lost := PySem.W.mg_of X Gn h_a_lost,
    F_shown := ⟨_, fun_mk (st := s_shown) h_l_shown h_c_shown h_k_shown, (fun_mk (st := s_shown) h_l_shown h_c_shown h_k_shown).binds (ps := ["source", "recipe", "cells"]) fun _ _ _ _ _ _ us hl => match us, hl with | [_, _, _], _ => rfl⟩,
    g_shown := PySem.W.mg_of X Gn h_a_shown,
    F_outcome := ⟨_, fun_mk (st := s_outcome) h_l_outcome h_c_outcome h_k_outcome, (fun_mk (st := s_outcome) h_l_outcome h_c_outcome h_k_outcome).binds (ps := ["width", "height", "recipe", "cells"]) fun _ _ _ _ _ _ us hl => match us, hl with | [_, _, _, _], _ => rfl⟩,
    g_outcome := PySem.W.mg_of X Gn h_a_outcome,
    F_check_two := ⟨_, fun_mk (st := s_check_two) h_l_check_two h_c_check_two h_k_check_two, (fun_mk (st := s_check_two) h_l_check_two h_c_check_two h_k_check_two).binds (ps := ["width", "height", "one", "other"]) fun _ _ _ _ _ _ us hl => match us, hl with | [_, _, _, _], _ => rfl⟩,
    g_check_two := PySem.W.mg_of X Gn h_a_check_two,
    F_are_alike := ⟨_, fun_mk (st := s_are_alike) h_l_are_alike h_c_are_alike h_k_are_alike, (fun_mk (st := s_are_alike) h_l_are_alike h_c_are_alike h_k_are_alike).binds (ps := ["width", "height", "one", "other"]) fun _ _ _ _ _ _ us hl => match us, hl with | [_, _, _, _], _ => rfl⟩,
    g_are_alike := PySem.W.mg_of X Gn h_a_are_alike,
    F_alike := ⟨_, fun_mk (st := s_alike) h_l_alike h_c_alike h_k_alike, (fun_mk (st := s_alike) h_l_alike h_c_alike h_k_alike).binds (ps := ["width", "height", "one", "other"]) fun _ _ _ _ _ _ us hl => match us, hl with | [_, _, _, _], _ => rfl⟩,
    g_alike := PySem.W.mg_of X Gn h_a_alike,
    F_texts := ⟨_, fun_mk (st := s_texts) h_l_texts h_c_texts h_k_texts, (fun_mk (st := s_texts) h_l_texts h_c_texts h_k_texts).binds (ps := ["size"]) fun _ _ _ _ _ _ us hl => match us, hl with | [_], _ => rfl⟩,
    g_texts := PySem.W.mg_of X Gn h_a_texts,
    F_parting_bath := ⟨_, fun_mk (st := s_parting_bath) h_l_parting_bath h_c_parting_bath h_k_parting_bath, (fun_mk (st := s_parting_bath) h_l_parting_bath h_c_parting_bath h_k_parting_bath).binds (ps := ["width", "height", "one", "other"]) fun _ _ _ _ _ _ us hl => match us, hl with | [_, _, _, _], _ => rfl⟩,
    g_parting_bath := PySem.W.mg_of X Gn h_a_parting_bath,
    F_check_papers := ⟨_, fun_mk (st := s_check_papers) h_l_check_papers h_c_check_papers h_k_check_papers, (fun_mk (st := s_check_papers) h_l_check_papers h_c_check_papers h_k_check_papers).binds (ps := ["rows", "papers"]) fun _ _ _ _ _ _ us hl => match us, hl with | [_, _], _ => rfl⟩,
    g_check_papers := PySem.W.mg_of X Gn h_a_check_papers,
    F_told := ⟨_, fun_mk (st := s_told) h_l_told h_c_told h_k_told, (fun_mk (st := s_told) h_l_told h_c_told h_k_told).binds (ps := ["width", "height", "recipe", "papers"]) fun _ _ _ _ _ _ us hl => match us, hl with | [_, _, _, _], _ => rfl⟩,
    g_told := PySem.W.mg_of X Gn h_a_told,
    F_plain := ⟨_, fun_mk (st := s_plain) h_l_plain h_c_plain h_k_plain, (fun_mk (st := s_plain) h_l_plain h_c_plain h_k_plain).binds (ps := ["width", "height", "deed"]) fun _ _ _ _ _ _ us hl => match us, hl with | [_, _, _], _ => rfl⟩,
    g_plain := PySem.W.mg_of X Gn h_a_plain,
    F_turned_back := ⟨_, fun_mk (st := s_turned_back) h_l_turned_back h_c_turned_back h_k_turned_back, (fun_mk (st := s_turned_back) h_l_turned_back h_c_turned_back h_k_turned_back).binds (ps := ["width", "height", "deed"]) fun _ _ _ _ _ _ us hl => match us, hl with | [_, _, _], _ => rfl⟩,
    g_turned_back := PySem.W.mg_of X Gn h_a_turned_back,
    F_short := ⟨_, fun_mk (st := s_short) h_l_short h_c_short h_k_short, (fun_mk (st := s_short) h_l_short h_c_short h_k_short).binds (ps := ["width", "height", "recipe"]) fun _ _ _ _ _ _ us hl => match us, hl with | [_, _, _], _ => rfl⟩,
    g_short := PySem.W.mg_of X Gn h_a_short,
    F_shortened := ⟨_, fun_mk (st := s_shortened) h_l_shortened h_c_shortened h_k_shortened, (fun_mk (st := s_shortened) h_l_shortened h_c_shortened h_k_shortened).binds (ps := ["bath", "recipe"]) fun _ _ _ _ _ _ us hl => match us, hl with | [_, _], _ => rfl⟩,
    g_shortened := PySem.W.mg_of X Gn h_a_shortened,
    F_undoing := ⟨_, fun_mk (st := s_undoing) h_l_undoing h_c_undoing h_k_undoing, (fun_mk (st := s_undoing) h_l_undoing h_c_undoing h_k_undoing).binds (ps := ["bath", "recipe"]) fun _ _ _ _ _ _ us hl => match us, hl with | [_, _], _ => rfl⟩,
    g_undoing := PySem.W.mg_of X Gn h_a_undoing,
    F__law_taken := ⟨_, fun_mk (st := s__law_taken) h_l__law_taken h_c__law_taken h_k__law_taken, (fun_mk (st := s__law_taken) h_l__law_taken h_c__law_taken h_k__law_taken).binds (ps := ["_law_row", "_law_many"]) fun _ _ _ _ _ _ us hl => match us, hl with | [_, _], _ => rfl⟩,
    g__law_taken := PySem.W.mg_of X Gn h_a__law_taken,
    F__law_raised := ⟨_, fun_mk (st := s__law_raised) h_l__law_raised h_c__law_raised h_k__law_raised, (fun_mk (st := s__law_raised) h_l__law_raised h_c__law_raised h_k__law_raised).binds (ps := ["_law_work"]) fun _ _ _ _ _ _ us hl => match us, hl with | [_], _ => rfl⟩,
    g__law_raised := PySem.W.mg_of X Gn h_a__law_raised,
    F__law_one := ⟨_, fun_mk (st := s__law_one) h_l__law_one h_c__law_one h_k__law_one, (fun_mk (st := s__law_one) h_l__law_one h_c__law_one h_k__law_one).binds (ps := []) fun _ _ _ _ _ _ us hl => match us, hl with | [], _ => rfl⟩,
    g__law_one := PySem.W.mg_of X Gn h_a__law_one,
    F__law_cross := ⟨_, fun_mk (st := s__law_cross) h_l__law_cross h_c__law_cross h_k__law_cross, (fun_mk (st := s__law_cross) h_l__law_cross h_c__law_cross h_k__law_cross).binds (ps := []) fun _ _ _ _ _ _ us hl => match us, hl with | [], _ => rfl⟩,
    g__law_cross := PySem.W.mg_of X Gn h_a__law_cross,
    tb_law := TB,
    F_law := ⟨_, fun_mk (st := s_law) h_l_law h_c_law h_k_law, (fun_mk (st := s_law) h_l_law h_c_law h_k_law).binds (ps := ["_law_script"]) fun _ _ _ _ _ _ us hl => (match us, hl with | [_], _ => rfl), h_cv_law⟩,
    g_law := PySem.W.mg_of X Gn h_a_law,
    n_ValueError := PySem.W.mg_none_of X Gn h_z_ValueError,
    n_all := PySem.W.mg_none_of X Gn h_z_all,
    n_bool := PySem.W.mg_none_of X Gn h_z_bool,
    n_enumerate := PySem.W.mg_none_of X Gn h_z_enumerate,
    n_int := PySem.W.mg_none_of X Gn h_z_int,
    n_isinstance := PySem.W.mg_none_of X Gn h_z_isinstance,
    n_len := PySem.W.mg_none_of X Gn h_z_len,
    n_list := PySem.W.mg_none_of X Gn h_z_list,
    n_max := PySem.W.mg_none_of X Gn h_z_max,
    n_range := PySem.W.mg_none_of X Gn h_z_range,
    n_set := PySem.W.mg_none_of X Gn h_z_set,
    n_sorted := PySem.W.mg_none_of X Gn h_z_sorted,
    n_str := PySem.W.mg_none_of X Gn h_z_str,
    n_sum := PySem.W.mg_none_of X Gn h_z_sum,
    n_tuple := PySem.W.mg_none_of X Gn h_z_tuple,
    n_zip := PySem.W.mg_none_of X Gn h_z_zip,
    c_CELL := ⟨_, PySem.W.mg_of X Gn h_x_CELL⟩,
    c_COMB := ⟨_, PySem.W.mg_of X Gn h_x_COMB⟩,
    c_DROP := ⟨_, PySem.W.mg_of X Gn h_x_DROP⟩,
    c_FEW_CELLS_fewest := ⟨_, PySem.W.mg_of X Gn h_x_FEW_CELLS_fewest⟩,
    c_FEW_CELLS_origins := ⟨_, PySem.W.mg_of X Gn h_x_FEW_CELLS_origins⟩,
    c_LETTERS := ⟨_, PySem.W.mg_of X Gn h_x_LETTERS⟩,
    c_MAX_CELLS := ⟨_, PySem.W.mg_of X Gn h_x_MAX_CELLS⟩,
    c_MAX_DEEDS := ⟨_, PySem.W.mg_of X Gn h_x_MAX_DEEDS⟩,
    c_MAX_DROPS := ⟨_, PySem.W.mg_of X Gn h_x_MAX_DROPS⟩,
    c_MAX_SIDE := ⟨_, PySem.W.mg_of X Gn h_x_MAX_SIDE⟩,
    c_MAX_STRIDE := ⟨_, PySem.W.mg_of X Gn h_x_MAX_STRIDE⟩,
    c_NOTHING := ⟨_, PySem.W.mg_of X Gn h_x_NOTHING⟩,
    c_PAPER := ⟨_, PySem.W.mg_of X Gn h_x_PAPER⟩,
    c_PARTING := ⟨_, PySem.W.mg_of X Gn h_x_PARTING⟩,
    c_RAKE := ⟨_, PySem.W.mg_of X Gn h_x_RAKE⟩,
    c_UNTOLD := ⟨_, PySem.W.mg_of X Gn h_x_UNTOLD⟩,
    xg_BathError := PySem.W.mg_of X Gn h_a_BathError,
    xg_InvalidBath := PySem.W.mg_of X Gn h_a_InvalidBath,
    xg_InvalidSize := PySem.W.mg_of X Gn h_a_InvalidSize,
    xg_InvalidRecipe := PySem.W.mg_of X Gn h_a_InvalidRecipe,
    exc_InvalidRecipe := ⟨h_eg_InvalidRecipe, h_ek_InvalidRecipe, h_es_InvalidRecipe, h_ed_InvalidRecipe, h_ea_InvalidRecipe, h_en_InvalidRecipe, h_et_InvalidRecipe, h_em_InvalidRecipe⟩,
    xg_UnknownCell := PySem.W.mg_of X Gn h_a_UnknownCell,
    xg_InvalidSign := PySem.W.mg_of X Gn h_a_InvalidSign,
    xg_InvalidDeed := PySem.W.mg_of X Gn h_a_InvalidDeed,
    xg_InvalidCells := PySem.W.mg_of X Gn h_a_InvalidCells,
    xg_InvalidNumber := PySem.W.mg_of X Gn h_a_InvalidNumber,
    xg_TooMany := PySem.W.mg_of X Gn h_a_TooMany,
    xg_InvalidColours := PySem.W.mg_of X Gn h_a_InvalidColours,
    xg_NoDrop := PySem.W.mg_of X Gn h_a_NoDrop,
    xg_InvalidPapers := PySem.W.mg_of X Gn h_a_InvalidPapers,
    xb_BathError := ⟨⟨h_br_BathError, h_bs_BathError⟩, h_bf_BathError⟩,
    xo_InvalidRecipe := ⟨⟨oexB_cls h_xo_InvalidRecipe, h_xa_InvalidRecipe, h_es_InvalidRecipe, h_xt_InvalidRecipe, h_kc_InvalidRecipe⟩, h_xn_InvalidRecipe, h_xm_InvalidRecipe, h_xu_InvalidRecipe⟩,
    xf_InvalidRecipe := ⟨⟨h_eg_InvalidRecipe, h_ek_InvalidRecipe, h_es_InvalidRecipe, h_ed_InvalidRecipe⟩, h_xn_InvalidRecipe⟩,
    exm_InvalidRecipe_BathError := h_exm_InvalidRecipe_BathError,
    kit_InvalidRecipe_InvalidBath := h_kit_InvalidRecipe_InvalidBath,
    kit_InvalidRecipe_InvalidCells := h_kit_InvalidRecipe_InvalidCells,
    kit_InvalidRecipe_InvalidColours := h_kit_InvalidRecipe_InvalidColours,
    kit_InvalidRecipe_InvalidDeed := h_kit_InvalidRecipe_InvalidDeed,
    kit_InvalidRecipe_InvalidNumber := h_kit_InvalidRecipe_InvalidNumber,
    kit_InvalidRecipe_InvalidPapers := h_kit_InvalidRecipe_InvalidPapers,
    kit_InvalidRecipe_InvalidRecipe := h_kit_InvalidRecipe_InvalidRecipe,
    kit_InvalidRecipe_InvalidSign := h_kit_InvalidRecipe_InvalidSign,
    kit_InvalidRecipe_InvalidSize := h_kit_InvalidRecipe_InvalidSize,
    kit_InvalidRecipe_NoDrop := h_kit_InvalidRecipe_NoDrop,
    kit_InvalidRecipe_TooMany := h_kit_InvalidRecipe_TooMany,
    kit_InvalidRecipe_UnknownCell := h_kit_InvalidRecipe_UnknownCell,
    kit_InvalidRecipe_ValueError := h_kit_InvalidRecipe_ValueError,
    mk_Bath := ⟨h_mk_Bath, h_m_BathD_initD, h_i_BathD_initD, h_kc_Bath⟩,
    g_Bath := PySem.W.mg_of X Gn h_a_Bath,
    len_Bath := ⟨h_m_BathD_lenD, h_i_BathD_lenD⟩,
    isi_Bath := ⟨⟨h_pg_Bath, h_ic_Bath, h_po_Bath, h_sa_Bath⟩, ⟨h_ca_Bath, h_cn_Bath, h_ct_Bath, h_cm_Bath⟩, h_ki_Bath⟩,
    p_Bath_width := ⟨⟨h_pg_Bath, h_ic_Bath, h_po_Bath, h_sa_Bath⟩, _, h_pa_Bath_width, h_pg_Bath_width, h_pt_Bath_width, _, h_pr_Bath_width⟩,
    p_Bath_height := ⟨⟨h_pg_Bath, h_ic_Bath, h_po_Bath, h_sa_Bath⟩, _, h_pa_Bath_height, h_pg_Bath_height, h_pt_Bath_height, _, h_pr_Bath_height⟩,
    p_Bath_cells := ⟨⟨h_pg_Bath, h_ic_Bath, h_po_Bath, h_sa_Bath⟩, _, h_pa_Bath_cells, h_pg_Bath_cells, h_pt_Bath_cells, _, h_pr_Bath_cells⟩,
    f_Bath_parts := ⟨⟨h_pg_Bath, h_ic_Bath, h_po_Bath, h_sa_Bath⟩, _, h_fa_Bath_parts, h_fg_Bath_parts, h_ft_Bath_parts, h_fy_Bath_parts, h_fi_Bath_parts, by decide⟩,
    mk_Tray := ⟨h_mk_Tray, h_m_TrayD_initD, h_i_TrayD_initD, h_kc_Tray⟩,
    g_Tray := PySem.W.mg_of X Gn h_a_Tray,
    cl_Tray := ⟨h_pg_Tray, h_hd_Tray, h_po_Tray, h_sa_Tray⟩,
    m_Tray_do := ⟨h_m_Tray_do, h_i_Tray_do, h_k_Tray_do⟩,
    f_Tray_size := ⟨⟨h_pg_Tray, h_hd_Tray, h_po_Tray, h_sa_Tray⟩, h_fa_Tray_size, rfl, by show List.Nodup (["size", "things", "papers"] : List Str); decide +kernel, by show List.length (["size", "things", "papers"] : List Str) < 900; decide⟩,
    f_Tray_things := ⟨⟨h_pg_Tray, h_hd_Tray, h_po_Tray, h_sa_Tray⟩, h_fa_Tray_things, rfl, by show List.Nodup (["size", "things", "papers"] : List Str); decide +kernel, by show List.length (["size", "things", "papers"] : List Str) < 900; decide⟩,
    f_Tray_papers := ⟨⟨h_pg_Tray, h_hd_Tray, h_po_Tray, h_sa_Tray⟩, h_fa_Tray_papers, rfl, by show List.Nodup (["size", "things", "papers"] : List Str); decide +kernel, by show List.length (["size", "things", "papers"] : List Str) < 900; decide⟩,
    mk_Rounds := ⟨h_mk_Rounds, h_m_RoundsD_initD, h_i_RoundsD_initD, h_kc_Rounds⟩,
    g_Rounds := PySem.W.mg_of X Gn h_a_Rounds,
    f_Rounds_rows := ⟨⟨h_pg_Rounds, h_hd_Rounds, h_po_Rounds, h_sa_Rounds⟩, h_fa_Rounds_rows, rfl, by show List.Nodup (["rows", "begin"] : List Str); decide +kernel, by show List.length (["rows", "begin"] : List Str) < 900; decide⟩,
    f_Rounds_begin := ⟨⟨h_pg_Rounds, h_hd_Rounds, h_po_Rounds, h_sa_Rounds⟩, h_fa_Rounds_begin, rfl, by show List.Nodup (["rows", "begin"] : List Str); decide +kernel, by show List.length (["rows", "begin"] : List Str) < 900; decide⟩ }
  refine ⟨(noTab [tp_law] KB), noTab_in X, PySem.W.fnOf "law" "law" (defArgs s_law) (defBody s_law) (defScope s_law) .none kV_law dc_law pm_law an_law cd_law ct_law, [(cc_law, tp_law)], spLawT (noTab [tp_law] KB) [(cc_law, tp_law)], fun p hp => ?_, fun p hp => ?_, fun p hp => ?_, fun s v => .of_eq rfl, fun H a ns hT hS => ⟨a, ns, rfl, hT, hS, fun _ => rfl⟩, fun base _ _ hT => ?_⟩
  · rw [List.mem_singleton.mp hp]; exact X _ _ hb_tb_law
  · rw [List.mem_singleton.mp hp]; exact noTab_none (by simp)
  · rw [List.mem_singleton.mp hp]; exact codeHd_of X hb_cl_law rfl rfl h_cp_law h_ne_law h_ct2_law h_ct3_law h_ct4_law h_ct5_law
  · exact (fn_sameL (fun_mk (st := s_law) h_l_law h_c_law h_k_law) h_cv_law ⟨rfl, rfl, rfl, by decide +kernel, rfl, by decide +kernel, by decide +kernel⟩ (r_law.2 (G base (hT _ (List.mem_singleton.mpr rfl))))).imp (sp_lawT h_nol (fun _ _ _ h => law_ok h) fun p hp => ⟨_, List.mem_singleton.mpr rfl, by rw [List.mem_singleton.mp hp]⟩)
theorem walk {l : PySem.W.OpenLaw} {q : Program} {loose : List Str} {XP : (Str → Option Value) → Heap → Prop} {YP : World → Heap → Prop} {d : DefRec} (hn : l.most = some 63) (hdf : d.params.defaults = [])
    (F : ∀ (w : World) (mg : Str → Option Value) (fa : Addr) (h : Heap), YP w h → h.Ns mainGlobals mg → mg d.name = some (.ref fa) →
      ∃ K : PySem.W.Frag, K.In h ∧ ∃ (fd : FuncData) (cs : List (Addr × Addr)) (sp : Sp), (∀ p ∈ cs, h.get? p.2 = some { cls := .none, data := .fields #[] }) ∧ (∀ p ∈ cs, K.lookup p.2 = none) ∧ (∀ p ∈ cs, PySem.W.CodeHd h p.1 p.2) ∧ (∀ (s : Shared) (u : Value), BindsTo s fd ⟨[u], []⟩ [("_law_script", u)]) ∧
      (∀ (H : Hp) (a : Addr) (ns : List Int), (∀ p ∈ cs, H p.2 = some (.tbl #[])) → SqL K H a (ns.map V.int) → sp [.ref a] H (fun v _ => v = .bl true) fun _ _ _ => False) ∧
      ∀ base : Heap, K.In base → base.Ns mainGlobals mg → (∀ p ∈ cs, LamX.TabB base mg p.1 p.2) → FnOk l.prog w K mg base (CX l.prog w) 11 fa fd ["_law_script"] sp) :
    PySem.W.WalkO q loose XP YP l.row.toRowW d [] (fun f vs => PySem.call f vs) :=
  LamX.walk_ofTsE (n := 63) (k := 11) (x := "_law_script") (CX := fun w => CX l.prog w) hn (by decide) hdf ⟨rfl, by decide, by decide⟩ (fun w mg fa h Y Gn hm => by
    obtain ⟨K, h1, fd, cs, sp, h2, h3, h4, h5, h6, h7⟩ := F w mg fa h Y Gn hm
    exact ⟨K, h1, fd, cs, sp, h2, h3, h4, h5, fun H a ns _ _ hT hS => h6 H a ns hT hS, h7⟩) fun _ _ _ _ _ z => cx_no z
end Lw
open PySem PySem.W PyProof.Rows in
set_option maxRecDepth 100000 in
set_option maxHeartbeats 0 in
theorem PySem.Challenge.cw_rakedpapers_k15_known_edges_holds : PySem.Challenge.rw_rakedpapers_k15_known_edges.Holds := by
  w_on; o_law; x_head; (case hw => w_witness2)
  k_fill
  refine Lw.walk (l := PySem.Challenge.rw_rakedpapers_k15_known_edges) rfl rfl ?F
  case F =>
    intro w mg fa h Y G hmg
    have KX := PySem.W.kIn_of Y
    refine' Lw.all_mk KX G hmg ?h_a_is_number ?h_a_is_letter ?h_a_are_signs ?h_a_is_size ?h_a_check_size ?h_a_are_strides ?h_a_are_cells ?h_a_is_draw ?h_a_is_deed ?h_a_check_recipe ?h_a_drawn ?h_a_pushed ?h_a_all_steps ?h_a_done ?h_a_check_cell ?h_a_ahead_of ?h_a_last_drops ?h_a_check_colours ?h_a_known_ahead ?h_a_fits ?h_a_ahead_count ?h_a_first_ahead ?h_a_period ?h_a_check_few ?h_a_check_cells ?h_a_all_strides ?h_a_all_draws ?h_a_draw_levels ?h_a_draw_count ?h_a_fewest_draws ?h_a_check_drops ?h_a_dropped ?h_a_first_way ?h_a_first_drops ?h_a_fewest_drops ?h_a_choices ?h_a_colourings ?h_a_recipes_of_drops ?h_a_origins_of ?h_a_sources ?h_a_copies_of ?h_a_lost ?h_a_shown ?h_a_outcome ?h_a_check_two ?h_a_are_alike ?h_a_alike ?h_a_texts ?h_a_parting_bath ?h_a_check_papers ?h_a_told ?h_a_plain ?h_a_turned_back ?h_a_short ?h_a_shortened ?h_a_undoing ?h_a__law_taken ?h_a__law_raised ?h_a__law_one ?h_a__law_cross ?h_a_law ?h_a_Bath ?h_a_Tray ?h_a_Rounds ?h_a_BathError ?h_a_InvalidBath ?h_a_InvalidSize ?h_a_InvalidRecipe ?h_b_eg_InvalidRecipe ?h_b_ek_InvalidRecipe ?h_b_es_InvalidRecipe ?h_b_ed_InvalidRecipe ?h_b_ea_InvalidRecipe ?h_b_en_InvalidRecipe ?h_b_et_InvalidRecipe ?h_b_em_InvalidRecipe ?h_a_UnknownCell ?h_a_InvalidSign ?h_a_InvalidDeed ?h_a_InvalidCells ?h_a_InvalidNumber ?h_a_TooMany ?h_a_InvalidColours ?h_a_NoDrop ?h_a_InvalidPapers ?h_b_xa_InvalidRecipe ?h_b_xt_InvalidRecipe ?h_b_kc_InvalidRecipe ?h_b_xn_InvalidRecipe ?h_b_xm_InvalidRecipe ?h_b_xu_InvalidRecipe ?h_b_m_BathD_initD ?h_b_i_BathD_initD ?h_b_pa_Bath_width ?h_b_pr_Bath_width ?h_b_pg_Bath_width ?h_b_pt_Bath_width ?h_b_pa_Bath_height ?h_b_pr_Bath_height ?h_b_pg_Bath_height ?h_b_pt_Bath_height ?h_b_pa_Bath_cells ?h_b_pr_Bath_cells ?h_b_pg_Bath_cells ?h_b_pt_Bath_cells ?h_b_m_BathD_lenD ?h_b_i_BathD_lenD ?h_b_m_BathD_eqD ?h_b_i_BathD_eqD ?h_b_pg_Bath ?h_b_po_Bath ?h_b_sa_Bath ?h_b_ic_Bath ?h_b_mk_Bath ?h_b_kc_Bath ?h_b_fa_Bath_parts ?h_b_fg_Bath_parts ?h_b_ft_Bath_parts ?h_b_fy_Bath_parts ?h_b_fi_Bath_parts ?h_b_ca_Bath ?h_b_cn_Bath ?h_b_ct_Bath ?h_b_cm_Bath ?h_b_m_TrayD_initD ?h_b_i_TrayD_initD ?h_b_m_Tray_do ?h_b_i_Tray_do ?h_b_pg_Tray ?h_b_po_Tray ?h_b_sa_Tray ?h_b_hd_Tray ?h_b_mk_Tray ?h_b_kc_Tray ?h_b_fa_Tray_size ?h_b_fa_Tray_things ?h_b_fa_Tray_papers ?h_b_m_RoundsD_initD ?h_b_i_RoundsD_initD ?h_b_m_Rounds_at ?h_b_i_Rounds_at ?h_b_pg_Rounds ?h_b_po_Rounds ?h_b_sa_Rounds ?h_b_hd_Rounds ?h_b_mk_Rounds ?h_b_kc_Rounds ?h_b_fa_Rounds_rows ?h_b_fa_Rounds_begin ?h_b_l_InvalidRecipeD_initD ?h_b_c_InvalidRecipeD_initD ?h_b_k_InvalidRecipeD_initD ?h_b_l_is_number ?h_b_c_is_number ?h_b_k_is_number ?h_b_l_is_letter ?h_b_c_is_letter ?h_b_k_is_letter ?h_b_l_are_signs ?h_b_c_are_signs ?h_b_k_are_signs ?h_b_l_is_size ?h_b_c_is_size ?h_b_k_is_size ?h_b_l_check_size ?h_b_c_check_size ?h_b_k_check_size ?h_b_l_BathD_initD ?h_b_c_BathD_initD ?h_b_k_BathD_initD ?h_b_l_Bath_width ?h_b_c_Bath_width ?h_b_k_Bath_width ?h_b_l_Bath_height ?h_b_c_Bath_height ?h_b_k_Bath_height ?h_b_l_Bath_cells ?h_b_c_Bath_cells ?h_b_k_Bath_cells ?h_b_l_BathD_lenD ?h_b_c_BathD_lenD ?h_b_k_BathD_lenD ?h_b_l_BathD_eqD ?h_b_c_BathD_eqD ?h_b_k_BathD_eqD ?h_b_l_are_strides ?h_b_c_are_strides ?h_b_k_are_strides ?h_b_l_are_cells ?h_b_c_are_cells ?h_b_k_are_cells ?h_b_l_is_draw ?h_b_c_is_draw ?h_b_k_is_draw ?h_b_l_is_deed ?h_b_c_is_deed ?h_b_k_is_deed ?h_b_l_check_recipe ?h_b_c_check_recipe ?h_b_k_check_recipe ?h_b_l_drawn ?h_b_c_drawn ?h_b_k_drawn ?h_b_l_pushed ?h_b_c_pushed ?h_b_k_pushed ?h_b_l_TrayD_initD ?h_b_c_TrayD_initD ?h_b_k_TrayD_initD ?h_b_l_Tray_do ?h_b_c_Tray_do ?h_b_k_Tray_do ?h_b_l_all_steps ?h_b_c_all_steps ?h_b_k_all_steps ?h_b_l_done ?h_b_c_done ?h_b_k_done ?h_b_l_check_cell ?h_b_c_check_cell ?h_b_k_check_cell ?h_b_l_ahead_of ?h_b_c_ahead_of ?h_b_k_ahead_of ?h_b_l_last_drops ?h_b_c_last_drops ?h_b_k_last_drops ?h_b_l_check_colours ?h_b_c_check_colours ?h_b_k_check_colours ?h_b_l_known_ahead ?h_b_c_known_ahead ?h_b_k_known_ahead ?h_b_l_fits ?h_b_c_fits ?h_b_k_fits ?h_b_l_ahead_count ?h_b_c_ahead_count ?h_b_k_ahead_count ?h_b_l_first_ahead ?h_b_c_first_ahead ?h_b_k_first_ahead ?h_b_l_RoundsD_initD ?h_b_c_RoundsD_initD ?h_b_k_RoundsD_initD ?h_b_l_Rounds_at ?h_b_c_Rounds_at ?h_b_k_Rounds_at ?h_b_l_period ?h_b_c_period ?h_b_k_period ?h_b_l_check_few ?h_b_c_check_few ?h_b_k_check_few ?h_b_l_check_cells ?h_b_c_check_cells ?h_b_k_check_cells ?h_b_l_all_strides ?h_b_c_all_strides ?h_b_k_all_strides ?h_b_l_all_draws ?h_b_c_all_draws ?h_b_k_all_draws ?h_b_l_draw_levels ?h_b_c_draw_levels ?h_b_k_draw_levels ?h_b_l_draw_count ?h_b_c_draw_count ?h_b_k_draw_count ?h_b_l_fewest_draws ?h_b_c_fewest_draws ?h_b_k_fewest_draws ?h_b_l_check_drops ?h_b_c_check_drops ?h_b_k_check_drops ?h_b_l_dropped ?h_b_c_dropped ?h_b_k_dropped ?h_b_l_first_way ?h_b_c_first_way ?h_b_k_first_way ?h_b_l_first_drops ?h_b_c_first_drops ?h_b_k_first_drops ?h_b_l_fewest_drops ?h_b_c_fewest_drops ?h_b_k_fewest_drops ?h_b_l_choices ?h_b_c_choices ?h_b_k_choices ?h_b_l_colourings ?h_b_c_colourings ?h_b_k_colourings ?h_b_l_recipes_of_drops ?h_b_c_recipes_of_drops ?h_b_k_recipes_of_drops ?h_b_l_origins_of ?h_b_c_origins_of ?h_b_k_origins_of ?h_b_l_sources ?h_b_c_sources ?h_b_k_sources ?h_b_l_copies_of ?h_b_c_copies_of ?h_b_k_copies_of ?h_b_l_lost ?h_b_c_lost ?h_b_k_lost ?h_b_l_shown ?h_b_c_shown ?h_b_k_shown ?h_b_l_outcome ?h_b_c_outcome ?h_b_k_outcome ?h_b_l_check_two ?h_b_c_check_two ?h_b_k_check_two ?h_b_l_are_alike ?h_b_c_are_alike ?h_b_k_are_alike ?h_b_l_alike ?h_b_c_alike ?h_b_k_alike ?h_b_l_texts ?h_b_c_texts ?h_b_k_texts ?h_b_l_parting_bath ?h_b_c_parting_bath ?h_b_k_parting_bath ?h_b_l_check_papers ?h_b_c_check_papers ?h_b_k_check_papers ?h_b_l_told ?h_b_c_told ?h_b_k_told ?h_b_l_plain ?h_b_c_plain ?h_b_k_plain ?h_b_l_turned_back ?h_b_c_turned_back ?h_b_k_turned_back ?h_b_l_short ?h_b_c_short ?h_b_k_short ?h_b_l_shortened ?h_b_c_shortened ?h_b_k_shortened ?h_b_l_undoing ?h_b_c_undoing ?h_b_k_undoing ?h_b_l__law_taken ?h_b_c__law_taken ?h_b_k__law_taken ?h_b_l__law_raised ?h_b_c__law_raised ?h_b_k__law_raised ?h_b_l__law_one ?h_b_c__law_one ?h_b_k__law_one ?h_b_l__law_cross ?h_b_c__law_cross ?h_b_k__law_cross ?h_b_l_law ?h_b_c_law ?h_b_k_law ?h_z_ValueError ?h_z_all ?h_z_bool ?h_z_enumerate ?h_z_int ?h_z_isinstance ?h_z_len ?h_z_list ?h_z_max ?h_z_range ?h_z_set ?h_z_sorted ?h_z_str ?h_z_sum ?h_z_tuple ?h_z_zip ?h_x_CELL ?h_x_COMB ?h_x_DROP ?h_x_FEW_CELLS_fewest ?h_x_FEW_CELLS_origins ?h_x_LETTERS ?h_x_MAX_CELLS ?h_x_MAX_DEEDS ?h_x_MAX_DROPS ?h_x_MAX_SIDE ?h_x_MAX_STRIDE ?h_x_NOTHING ?h_x_PAPER ?h_x_PARTING ?h_x_RAKE ?h_x_UNTOLD ?h_cv_law ?h_b_cl_law ?h_cp_law ?h_ct2_law ?h_ct3_law ?h_ct4_law ?h_ct5_law ?h_ne_law ?h_b_tb_law ?h_eg_InvalidRecipe ?h_ek_InvalidRecipe ?h_es_InvalidRecipe ?h_ed_InvalidRecipe ?h_ea_InvalidRecipe ?h_en_InvalidRecipe ?h_et_InvalidRecipe ?h_em_InvalidRecipe ?h_br_BathError ?h_bs_BathError ?h_bf_BathError ?h_xo_InvalidRecipe ?h_xa_InvalidRecipe ?h_xt_InvalidRecipe ?h_kc_InvalidRecipe ?h_xn_InvalidRecipe ?h_xm_InvalidRecipe ?h_xu_InvalidRecipe ?h_exm_InvalidRecipe_BathError ?h_kit_InvalidRecipe_InvalidBath ?h_kit_InvalidRecipe_InvalidCells ?h_kit_InvalidRecipe_InvalidColours ?h_kit_InvalidRecipe_InvalidDeed ?h_kit_InvalidRecipe_InvalidNumber ?h_kit_InvalidRecipe_InvalidPapers ?h_kit_InvalidRecipe_InvalidRecipe ?h_kit_InvalidRecipe_InvalidSign ?h_kit_InvalidRecipe_InvalidSize ?h_kit_InvalidRecipe_NoDrop ?h_kit_InvalidRecipe_TooMany ?h_kit_InvalidRecipe_UnknownCell ?h_kit_InvalidRecipe_ValueError ?h_m_BathD_initD ?h_i_BathD_initD ?h_pa_Bath_width ?h_pr_Bath_width ?h_pg_Bath_width ?h_pt_Bath_width ?h_pa_Bath_height ?h_pr_Bath_height ?h_pg_Bath_height ?h_pt_Bath_height ?h_pa_Bath_cells ?h_pr_Bath_cells ?h_pg_Bath_cells ?h_pt_Bath_cells ?h_m_BathD_lenD ?h_i_BathD_lenD ?h_m_BathD_eqD ?h_i_BathD_eqD ?h_pg_Bath ?h_po_Bath ?h_sa_Bath ?h_ic_Bath ?h_mk_Bath ?h_kc_Bath ?h_fa_Bath_parts ?h_fg_Bath_parts ?h_ft_Bath_parts ?h_fy_Bath_parts ?h_fi_Bath_parts ?h_ca_Bath ?h_cn_Bath ?h_ct_Bath ?h_cm_Bath ?h_ki_Bath ?h_m_TrayD_initD ?h_i_TrayD_initD ?h_m_Tray_do ?h_i_Tray_do ?h_pg_Tray ?h_po_Tray ?h_sa_Tray ?h_hd_Tray ?h_mk_Tray ?h_kc_Tray ?h_fa_Tray_size ?h_fa_Tray_things ?h_fa_Tray_papers ?h_m_RoundsD_initD ?h_i_RoundsD_initD ?h_m_Rounds_at ?h_i_Rounds_at ?h_pg_Rounds ?h_po_Rounds ?h_sa_Rounds ?h_hd_Rounds ?h_mk_Rounds ?h_kc_Rounds ?h_fa_Rounds_rows ?h_fa_Rounds_begin ?h_l_InvalidRecipeD_initD ?h_c_InvalidRecipeD_initD ?h_k_InvalidRecipeD_initD ?h_l_is_number ?h_c_is_number ?h_k_is_number ?h_l_is_letter ?h_c_is_letter ?h_k_is_letter ?h_l_are_signs ?h_c_are_signs ?h_k_are_signs ?h_l_is_size ?h_c_is_size ?h_k_is_size ?h_l_check_size ?h_c_check_size ?h_k_check_size ?h_l_BathD_initD ?h_c_BathD_initD ?h_k_BathD_initD ?h_l_Bath_width ?h_c_Bath_width ?h_k_Bath_width ?h_l_Bath_height ?h_c_Bath_height ?h_k_Bath_height ?h_l_Bath_cells ?h_c_Bath_cells ?h_k_Bath_cells ?h_l_BathD_lenD ?h_c_BathD_lenD ?h_k_BathD_lenD ?h_l_BathD_eqD ?h_c_BathD_eqD ?h_k_BathD_eqD ?h_l_are_strides ?h_c_are_strides ?h_k_are_strides ?h_l_are_cells ?h_c_are_cells ?h_k_are_cells ?h_l_is_draw ?h_c_is_draw ?h_k_is_draw ?h_l_is_deed ?h_c_is_deed ?h_k_is_deed ?h_l_check_recipe ?h_c_check_recipe ?h_k_check_recipe ?h_l_drawn ?h_c_drawn ?h_k_drawn ?h_l_pushed ?h_c_pushed ?h_k_pushed ?h_l_TrayD_initD ?h_c_TrayD_initD ?h_k_TrayD_initD ?h_l_Tray_do ?h_c_Tray_do ?h_k_Tray_do ?h_l_all_steps ?h_c_all_steps ?h_k_all_steps ?h_l_done ?h_c_done ?h_k_done ?h_l_check_cell ?h_c_check_cell ?h_k_check_cell ?h_l_ahead_of ?h_c_ahead_of ?h_k_ahead_of ?h_l_last_drops ?h_c_last_drops ?h_k_last_drops ?h_l_check_colours ?h_c_check_colours ?h_k_check_colours ?h_l_known_ahead ?h_c_known_ahead ?h_k_known_ahead ?h_l_fits ?h_c_fits ?h_k_fits ?h_l_ahead_count ?h_c_ahead_count ?h_k_ahead_count ?h_l_first_ahead ?h_c_first_ahead ?h_k_first_ahead ?h_l_RoundsD_initD ?h_c_RoundsD_initD ?h_k_RoundsD_initD ?h_l_Rounds_at ?h_c_Rounds_at ?h_k_Rounds_at ?h_l_period ?h_c_period ?h_k_period ?h_l_check_few ?h_c_check_few ?h_k_check_few ?h_l_check_cells ?h_c_check_cells ?h_k_check_cells ?h_l_all_strides ?h_c_all_strides ?h_k_all_strides ?h_l_all_draws ?h_c_all_draws ?h_k_all_draws ?h_l_draw_levels ?h_c_draw_levels ?h_k_draw_levels ?h_l_draw_count ?h_c_draw_count ?h_k_draw_count ?h_l_fewest_draws ?h_c_fewest_draws ?h_k_fewest_draws ?h_l_check_drops ?h_c_check_drops ?h_k_check_drops ?h_l_dropped ?h_c_dropped ?h_k_dropped ?h_l_first_way ?h_c_first_way ?h_k_first_way ?h_l_first_drops ?h_c_first_drops ?h_k_first_drops ?h_l_fewest_drops ?h_c_fewest_drops ?h_k_fewest_drops ?h_l_choices ?h_c_choices ?h_k_choices ?h_l_colourings ?h_c_colourings ?h_k_colourings ?h_l_recipes_of_drops ?h_c_recipes_of_drops ?h_k_recipes_of_drops ?h_l_origins_of ?h_c_origins_of ?h_k_origins_of ?h_l_sources ?h_c_sources ?h_k_sources ?h_l_copies_of ?h_c_copies_of ?h_k_copies_of ?h_l_lost ?h_c_lost ?h_k_lost ?h_l_shown ?h_c_shown ?h_k_shown ?h_l_outcome ?h_c_outcome ?h_k_outcome ?h_l_check_two ?h_c_check_two ?h_k_check_two ?h_l_are_alike ?h_c_are_alike ?h_k_are_alike ?h_l_alike ?h_c_alike ?h_k_alike ?h_l_texts ?h_c_texts ?h_k_texts ?h_l_parting_bath ?h_c_parting_bath ?h_k_parting_bath ?h_l_check_papers ?h_c_check_papers ?h_k_check_papers ?h_l_told ?h_c_told ?h_k_told ?h_l_plain ?h_c_plain ?h_k_plain ?h_l_turned_back ?h_c_turned_back ?h_k_turned_back ?h_l_short ?h_c_short ?h_k_short ?h_l_shortened ?h_c_shortened ?h_k_shortened ?h_l_undoing ?h_c_undoing ?h_k_undoing ?h_l__law_taken ?h_c__law_taken ?h_k__law_taken ?h_l__law_raised ?h_c__law_raised ?h_k__law_raised ?h_l__law_one ?h_c__law_one ?h_k__law_one ?h_l__law_cross ?h_c__law_cross ?h_k__law_cross ?h_l_law ?h_c_law ?h_k_law ?h_nol
    (case h_a_is_number => k_is)
    (case h_a_is_letter => k_is)
    (case h_a_are_signs => k_is)
    (case h_a_is_size => k_is)
    (case h_a_check_size => k_is)
    (case h_a_are_strides => k_is)
    (case h_a_are_cells => k_is)
    (case h_a_is_draw => k_is)
    (case h_a_is_deed => k_is)
    (case h_a_check_recipe => k_is)
    (case h_a_drawn => k_is)
    (case h_a_pushed => k_is)
    (case h_a_all_steps => k_is)
    (case h_a_done => k_is)
    (case h_a_check_cell => k_is)
    (case h_a_ahead_of => k_is)
    (case h_a_last_drops => k_is)
    (case h_a_check_colours => k_is)
    (case h_a_known_ahead => k_is)
    (case h_a_fits => k_is)
    (case h_a_ahead_count => k_is)
    (case h_a_first_ahead => k_is)
    (case h_a_period => k_is)
    (case h_a_check_few => k_is)
    (case h_a_check_cells => k_is)
    (case h_a_all_strides => k_is)
    (case h_a_all_draws => k_is)
    (case h_a_draw_levels => k_is)
    (case h_a_draw_count => k_is)
    (case h_a_fewest_draws => k_is)
    (case h_a_check_drops => k_is)
    (case h_a_dropped => k_is)
    (case h_a_first_way => k_is)
    (case h_a_first_drops => k_is)
    (case h_a_fewest_drops => k_is)
    (case h_a_choices => k_is)
    (case h_a_colourings => k_is)
    (case h_a_recipes_of_drops => k_is)
    (case h_a_origins_of => k_is)
    (case h_a_sources => k_is)
    (case h_a_copies_of => k_is)
    (case h_a_lost => k_is)
    (case h_a_shown => k_is)
    (case h_a_outcome => k_is)
    (case h_a_check_two => k_is)
    (case h_a_are_alike => k_is)
    (case h_a_alike => k_is)
    (case h_a_texts => k_is)
    (case h_a_parting_bath => k_is)
    (case h_a_check_papers => k_is)
    (case h_a_told => k_is)
    (case h_a_plain => k_is)
    (case h_a_turned_back => k_is)
    (case h_a_short => k_is)
    (case h_a_shortened => k_is)
    (case h_a_undoing => k_is)
    (case h_a__law_taken => k_is)
    (case h_a__law_raised => k_is)
    (case h_a__law_one => k_is)
    (case h_a__law_cross => k_is)
    (case h_a_law => k_is)
    (case h_a_Bath => k_is)
    (case h_a_Tray => k_is)
    (case h_a_Rounds => k_is)
    (case h_a_BathError => k_is)
    (case h_a_InvalidBath => k_is)
    (case h_a_InvalidSize => k_is)
    (case h_a_InvalidRecipe => k_is)
    (case h_b_eg_InvalidRecipe => k_is)
    (case h_b_ek_InvalidRecipe => k_is)
    (case h_b_es_InvalidRecipe => k_is)
    (case h_b_ed_InvalidRecipe => k_is)
    (case h_b_ea_InvalidRecipe => k_is)
    (case h_b_en_InvalidRecipe => k_is)
    (case h_b_et_InvalidRecipe => k_is)
    (case h_b_em_InvalidRecipe => k_is)
    (case h_a_UnknownCell => k_is)
    (case h_a_InvalidSign => k_is)
    (case h_a_InvalidDeed => k_is)
    (case h_a_InvalidCells => k_is)
    (case h_a_InvalidNumber => k_is)
    (case h_a_TooMany => k_is)
    (case h_a_InvalidColours => k_is)
    (case h_a_NoDrop => k_is)
    (case h_a_InvalidPapers => k_is)
    (case h_b_xa_InvalidRecipe => k_is)
    (case h_b_xt_InvalidRecipe => k_is)
    (case h_b_kc_InvalidRecipe => k_is)
    (case h_b_xn_InvalidRecipe => k_is)
    (case h_b_xm_InvalidRecipe => k_is)
    (case h_b_xu_InvalidRecipe => k_is)
    (case h_b_m_BathD_initD => k_is)
    (case h_b_i_BathD_initD => k_is)
    (case h_b_pa_Bath_width => k_is)
    (case h_b_pr_Bath_width => k_is)
    (case h_b_pg_Bath_width => k_is)
    (case h_b_pt_Bath_width => k_is)
    (case h_b_pa_Bath_height => k_is)
    (case h_b_pr_Bath_height => k_is)
    (case h_b_pg_Bath_height => k_is)
    (case h_b_pt_Bath_height => k_is)
    (case h_b_pa_Bath_cells => k_is)
    (case h_b_pr_Bath_cells => k_is)
    (case h_b_pg_Bath_cells => k_is)
    (case h_b_pt_Bath_cells => k_is)
    (case h_b_m_BathD_lenD => k_is)
    (case h_b_i_BathD_lenD => k_is)
    (case h_b_m_BathD_eqD => k_is)
    (case h_b_i_BathD_eqD => k_is)
    (case h_b_pg_Bath => k_is)
    (case h_b_po_Bath => k_is)
    (case h_b_sa_Bath => k_is)
    (case h_b_ic_Bath => k_is)
    (case h_b_mk_Bath => k_is)
    (case h_b_kc_Bath => k_is)
    (case h_b_fa_Bath_parts => k_is)
    (case h_b_fg_Bath_parts => k_is)
    (case h_b_ft_Bath_parts => k_is)
    (case h_b_fy_Bath_parts => k_is)
    (case h_b_fi_Bath_parts => k_is)
    (case h_b_ca_Bath => k_is)
    (case h_b_cn_Bath => k_is)
    (case h_b_ct_Bath => k_is)
    (case h_b_cm_Bath => k_is)
    (case h_b_m_TrayD_initD => k_is)
    (case h_b_i_TrayD_initD => k_is)
    (case h_b_m_Tray_do => k_is)
    (case h_b_i_Tray_do => k_is)
    (case h_b_pg_Tray => k_is)
    (case h_b_po_Tray => k_is)
    (case h_b_sa_Tray => k_is)
    (case h_b_hd_Tray => k_is)
    (case h_b_mk_Tray => k_is)
    (case h_b_kc_Tray => k_is)
    (case h_b_fa_Tray_size => k_is)
    (case h_b_fa_Tray_things => k_is)
    (case h_b_fa_Tray_papers => k_is)
    (case h_b_m_RoundsD_initD => k_is)
    (case h_b_i_RoundsD_initD => k_is)
    (case h_b_m_Rounds_at => k_is)
    (case h_b_i_Rounds_at => k_is)
    (case h_b_pg_Rounds => k_is)
    (case h_b_po_Rounds => k_is)
    (case h_b_sa_Rounds => k_is)
    (case h_b_hd_Rounds => k_is)
    (case h_b_mk_Rounds => k_is)
    (case h_b_kc_Rounds => k_is)
    (case h_b_fa_Rounds_rows => k_is)
    (case h_b_fa_Rounds_begin => k_is)
    (case h_b_l_InvalidRecipeD_initD => k_is)
    (case h_b_c_InvalidRecipeD_initD => k_is)
    (case h_b_k_InvalidRecipeD_initD => k_is)
    (case h_b_l_is_number => k_is)
    (case h_b_c_is_number => k_is)
    (case h_b_k_is_number => k_is)
    (case h_b_l_is_letter => k_is)
    (case h_b_c_is_letter => k_is)
    (case h_b_k_is_letter => k_is)
    (case h_b_l_are_signs => k_is)
    (case h_b_c_are_signs => k_is)
    (case h_b_k_are_signs => k_is)
    (case h_b_l_is_size => k_is)
    (case h_b_c_is_size => k_is)
    (case h_b_k_is_size => k_is)
    (case h_b_l_check_size => k_is)
    (case h_b_c_check_size => k_is)
    (case h_b_k_check_size => k_is)
    (case h_b_l_BathD_initD => k_is)
    (case h_b_c_BathD_initD => k_is)
    (case h_b_k_BathD_initD => k_is)
    (case h_b_l_Bath_width => k_is)
    (case h_b_c_Bath_width => k_is)
    (case h_b_k_Bath_width => k_is)
    (case h_b_l_Bath_height => k_is)
    (case h_b_c_Bath_height => k_is)
    (case h_b_k_Bath_height => k_is)
    (case h_b_l_Bath_cells => k_is)
    (case h_b_c_Bath_cells => k_is)
    (case h_b_k_Bath_cells => k_is)
    (case h_b_l_BathD_lenD => k_is)
    (case h_b_c_BathD_lenD => k_is)
    (case h_b_k_BathD_lenD => k_is)
    (case h_b_l_BathD_eqD => k_is)
    (case h_b_c_BathD_eqD => k_is)
    (case h_b_k_BathD_eqD => k_is)
    (case h_b_l_are_strides => k_is)
    (case h_b_c_are_strides => k_is)
    (case h_b_k_are_strides => k_is)
    (case h_b_l_are_cells => k_is)
    (case h_b_c_are_cells => k_is)
    (case h_b_k_are_cells => k_is)
    (case h_b_l_is_draw => k_is)
    (case h_b_c_is_draw => k_is)
    (case h_b_k_is_draw => k_is)
    (case h_b_l_is_deed => k_is)
    (case h_b_c_is_deed => k_is)
    (case h_b_k_is_deed => k_is)
    (case h_b_l_check_recipe => k_is)
    (case h_b_c_check_recipe => k_is)
    (case h_b_k_check_recipe => k_is)
    (case h_b_l_drawn => k_is)
    (case h_b_c_drawn => k_is)
    (case h_b_k_drawn => k_is)
    (case h_b_l_pushed => k_is)
    (case h_b_c_pushed => k_is)
    (case h_b_k_pushed => k_is)
    (case h_b_l_TrayD_initD => k_is)
    (case h_b_c_TrayD_initD => k_is)
    (case h_b_k_TrayD_initD => k_is)
    (case h_b_l_Tray_do => k_is)
    (case h_b_c_Tray_do => k_is)
    (case h_b_k_Tray_do => k_is)
    (case h_b_l_all_steps => k_is)
    (case h_b_c_all_steps => k_is)
    (case h_b_k_all_steps => k_is)
    (case h_b_l_done => k_is)
    (case h_b_c_done => k_is)
    (case h_b_k_done => k_is)
    (case h_b_l_check_cell => k_is)
    (case h_b_c_check_cell => k_is)
    (case h_b_k_check_cell => k_is)
    (case h_b_l_ahead_of => k_is)
    (case h_b_c_ahead_of => k_is)
    (case h_b_k_ahead_of => k_is)
    (case h_b_l_last_drops => k_is)
    (case h_b_c_last_drops => k_is)
    (case h_b_k_last_drops => k_is)
    (case h_b_l_check_colours => k_is)
    (case h_b_c_check_colours => k_is)
    (case h_b_k_check_colours => k_is)
    (case h_b_l_known_ahead => k_is)
    (case h_b_c_known_ahead => k_is)
    (case h_b_k_known_ahead => k_is)
    (case h_b_l_fits => k_is)
    (case h_b_c_fits => k_is)
    (case h_b_k_fits => k_is)
    (case h_b_l_ahead_count => k_is)
    (case h_b_c_ahead_count => k_is)
    (case h_b_k_ahead_count => k_is)
    (case h_b_l_first_ahead => k_is)
    (case h_b_c_first_ahead => k_is)
    (case h_b_k_first_ahead => k_is)
    (case h_b_l_RoundsD_initD => k_is)
    (case h_b_c_RoundsD_initD => k_is)
    (case h_b_k_RoundsD_initD => k_is)
    (case h_b_l_Rounds_at => k_is)
    (case h_b_c_Rounds_at => k_is)
    (case h_b_k_Rounds_at => k_is)
    (case h_b_l_period => k_is)
    (case h_b_c_period => k_is)
    (case h_b_k_period => k_is)
    (case h_b_l_check_few => k_is)
    (case h_b_c_check_few => k_is)
    (case h_b_k_check_few => k_is)
    (case h_b_l_check_cells => k_is)
    (case h_b_c_check_cells => k_is)
    (case h_b_k_check_cells => k_is)
    (case h_b_l_all_strides => k_is)
    (case h_b_c_all_strides => k_is)
    (case h_b_k_all_strides => k_is)
    (case h_b_l_all_draws => k_is)
    (case h_b_c_all_draws => k_is)
    (case h_b_k_all_draws => k_is)
    (case h_b_l_draw_levels => k_is)
    (case h_b_c_draw_levels => k_is)
    (case h_b_k_draw_levels => k_is)
    (case h_b_l_draw_count => k_is)
    (case h_b_c_draw_count => k_is)
    (case h_b_k_draw_count => k_is)
    (case h_b_l_fewest_draws => k_is)
    (case h_b_c_fewest_draws => k_is)
    (case h_b_k_fewest_draws => k_is)
    (case h_b_l_check_drops => k_is)
    (case h_b_c_check_drops => k_is)
    (case h_b_k_check_drops => k_is)
    (case h_b_l_dropped => k_is)
    (case h_b_c_dropped => k_is)
    (case h_b_k_dropped => k_is)
    (case h_b_l_first_way => k_is)
    (case h_b_c_first_way => k_is)
    (case h_b_k_first_way => k_is)
    (case h_b_l_first_drops => k_is)
    (case h_b_c_first_drops => k_is)
    (case h_b_k_first_drops => k_is)
    (case h_b_l_fewest_drops => k_is)
    (case h_b_c_fewest_drops => k_is)
    (case h_b_k_fewest_drops => k_is)
    (case h_b_l_choices => k_is)
    (case h_b_c_choices => k_is)
    (case h_b_k_choices => k_is)
    (case h_b_l_colourings => k_is)
    (case h_b_c_colourings => k_is)
    (case h_b_k_colourings => k_is)
    (case h_b_l_recipes_of_drops => k_is)
    (case h_b_c_recipes_of_drops => k_is)
    (case h_b_k_recipes_of_drops => k_is)
    (case h_b_l_origins_of => k_is)
    (case h_b_c_origins_of => k_is)
    (case h_b_k_origins_of => k_is)
    (case h_b_l_sources => k_is)
    (case h_b_c_sources => k_is)
    (case h_b_k_sources => k_is)
    (case h_b_l_copies_of => k_is)
    (case h_b_c_copies_of => k_is)
    (case h_b_k_copies_of => k_is)
    (case h_b_l_lost => k_is)
    (case h_b_c_lost => k_is)
    (case h_b_k_lost => k_is)
    (case h_b_l_shown => k_is)
    (case h_b_c_shown => k_is)
    (case h_b_k_shown => k_is)
    (case h_b_l_outcome => k_is)
    (case h_b_c_outcome => k_is)
    (case h_b_k_outcome => k_is)
    (case h_b_l_check_two => k_is)
    (case h_b_c_check_two => k_is)
    (case h_b_k_check_two => k_is)
    (case h_b_l_are_alike => k_is)
    (case h_b_c_are_alike => k_is)
    (case h_b_k_are_alike => k_is)
    (case h_b_l_alike => k_is)
    (case h_b_c_alike => k_is)
    (case h_b_k_alike => k_is)
    (case h_b_l_texts => k_is)
    (case h_b_c_texts => k_is)
    (case h_b_k_texts => k_is)
    (case h_b_l_parting_bath => k_is)
    (case h_b_c_parting_bath => k_is)
    (case h_b_k_parting_bath => k_is)
    (case h_b_l_check_papers => k_is)
    (case h_b_c_check_papers => k_is)
    (case h_b_k_check_papers => k_is)
    (case h_b_l_told => k_is)
    (case h_b_c_told => k_is)
    (case h_b_k_told => k_is)
    (case h_b_l_plain => k_is)
    (case h_b_c_plain => k_is)
    (case h_b_k_plain => k_is)
    (case h_b_l_turned_back => k_is)
    (case h_b_c_turned_back => k_is)
    (case h_b_k_turned_back => k_is)
    (case h_b_l_short => k_is)
    (case h_b_c_short => k_is)
    (case h_b_k_short => k_is)
    (case h_b_l_shortened => k_is)
    (case h_b_c_shortened => k_is)
    (case h_b_k_shortened => k_is)
    (case h_b_l_undoing => k_is)
    (case h_b_c_undoing => k_is)
    (case h_b_k_undoing => k_is)
    (case h_b_l__law_taken => k_is)
    (case h_b_c__law_taken => k_is)
    (case h_b_k__law_taken => k_is)
    (case h_b_l__law_raised => k_is)
    (case h_b_c__law_raised => k_is)
    (case h_b_k__law_raised => k_is)
    (case h_b_l__law_one => k_is)
    (case h_b_c__law_one => k_is)
    (case h_b_k__law_one => k_is)
    (case h_b_l__law_cross => k_is)
    (case h_b_c__law_cross => k_is)
    (case h_b_k__law_cross => k_is)
    (case h_b_l_law => k_is)
    (case h_b_c_law => k_is)
    (case h_b_k_law => k_is)
    (case h_z_ValueError => k_is)
    (case h_z_all => k_is)
    (case h_z_bool => k_is)
    (case h_z_enumerate => k_is)
    (case h_z_int => k_is)
    (case h_z_isinstance => k_is)
    (case h_z_len => k_is)
    (case h_z_list => k_is)
    (case h_z_max => k_is)
    (case h_z_range => k_is)
    (case h_z_set => k_is)
    (case h_z_sorted => k_is)
    (case h_z_str => k_is)
    (case h_z_sum => k_is)
    (case h_z_tuple => k_is)
    (case h_z_zip => k_is)
    (case h_x_CELL => k_is)
    (case h_x_COMB => k_is)
    (case h_x_DROP => k_is)
    (case h_x_FEW_CELLS_fewest => k_is)
    (case h_x_FEW_CELLS_origins => k_is)
    (case h_x_LETTERS => k_is)
    (case h_x_MAX_CELLS => k_is)
    (case h_x_MAX_DEEDS => k_is)
    (case h_x_MAX_DROPS => k_is)
    (case h_x_MAX_SIDE => k_is)
    (case h_x_MAX_STRIDE => k_is)
    (case h_x_NOTHING => k_is)
    (case h_x_PAPER => k_is)
    (case h_x_PARTING => k_is)
    (case h_x_RAKE => k_is)
    (case h_x_UNTOLD => k_is)
    (case h_cv_law => rfl)
    (case h_b_cl_law => k_is)
    (case h_cp_law => rfl)
    (case h_ct2_law => exact ⟨_, _, rfl⟩)
    (case h_ct3_law => exact ⟨_, _, rfl⟩)
    (case h_ct4_law => exact ⟨_, rfl⟩)
    (case h_ct5_law => exact ⟨_, _, rfl⟩)
    (case h_ne_law => decide)
    (case h_b_tb_law => k_is)
    (case h_eg_InvalidRecipe => kernel_rfl)
    (case h_ek_InvalidRecipe => kernel_rfl)
    (case h_es_InvalidRecipe => kernel_rfl)
    (case h_ed_InvalidRecipe => kernel_rfl)
    (case h_ea_InvalidRecipe => kernel_rfl)
    (case h_en_InvalidRecipe => kernel_rfl)
    (case h_et_InvalidRecipe => kernel_rfl)
    (case h_em_InvalidRecipe => kernel_rfl)
    (case h_br_BathError => kernel_rfl)
    (case h_bs_BathError => kernel_rfl)
    (case h_bf_BathError => kernel_rfl)
    (case h_xo_InvalidRecipe => kernel_rfl)
    (case h_xa_InvalidRecipe => kernel_rfl)
    (case h_xt_InvalidRecipe => kernel_rfl)
    (case h_kc_InvalidRecipe => kernel_rfl)
    (case h_xn_InvalidRecipe => kernel_rfl)
    (case h_xm_InvalidRecipe => kernel_rfl)
    (case h_xu_InvalidRecipe => kernel_rfl)
    (case h_exm_InvalidRecipe_BathError => exact Lw.exm_own (by kernel_rfl) (by kernel_rfl) (by kernel_rfl) (by kernel_rfl))
    (case h_kit_InvalidRecipe_InvalidBath => kernel_rfl)
    (case h_kit_InvalidRecipe_InvalidCells => kernel_rfl)
    (case h_kit_InvalidRecipe_InvalidColours => kernel_rfl)
    (case h_kit_InvalidRecipe_InvalidDeed => kernel_rfl)
    (case h_kit_InvalidRecipe_InvalidNumber => kernel_rfl)
    (case h_kit_InvalidRecipe_InvalidPapers => kernel_rfl)
    (case h_kit_InvalidRecipe_InvalidRecipe => kernel_rfl)
    (case h_kit_InvalidRecipe_InvalidSign => kernel_rfl)
    (case h_kit_InvalidRecipe_InvalidSize => kernel_rfl)
    (case h_kit_InvalidRecipe_NoDrop => kernel_rfl)
    (case h_kit_InvalidRecipe_TooMany => kernel_rfl)
    (case h_kit_InvalidRecipe_UnknownCell => kernel_rfl)
    (case h_kit_InvalidRecipe_ValueError => kernel_rfl)
    (case h_m_BathD_initD => kernel_rfl)
    (case h_i_BathD_initD => kernel_rfl)
    (case h_pa_Bath_width => kernel_rfl)
    (case h_pr_Bath_width => kernel_rfl)
    (case h_pg_Bath_width => kernel_rfl)
    (case h_pt_Bath_width => kernel_rfl)
    (case h_pa_Bath_height => kernel_rfl)
    (case h_pr_Bath_height => kernel_rfl)
    (case h_pg_Bath_height => kernel_rfl)
    (case h_pt_Bath_height => kernel_rfl)
    (case h_pa_Bath_cells => kernel_rfl)
    (case h_pr_Bath_cells => kernel_rfl)
    (case h_pg_Bath_cells => kernel_rfl)
    (case h_pt_Bath_cells => kernel_rfl)
    (case h_m_BathD_lenD => kernel_rfl)
    (case h_i_BathD_lenD => kernel_rfl)
    (case h_m_BathD_eqD => kernel_rfl)
    (case h_i_BathD_eqD => kernel_rfl)
    (case h_pg_Bath => kernel_rfl)
    (case h_po_Bath => kernel_rfl)
    (case h_sa_Bath => kernel_rfl)
    (case h_ic_Bath => kernel_rfl)
    (case h_mk_Bath => kernel_rfl)
    (case h_kc_Bath => kernel_rfl)
    (case h_fa_Bath_parts => kernel_rfl)
    (case h_fg_Bath_parts => kernel_rfl)
    (case h_ft_Bath_parts => kernel_rfl)
    (case h_fy_Bath_parts => kernel_rfl)
    (case h_fi_Bath_parts => kernel_rfl)
    (case h_ca_Bath => kernel_rfl)
    (case h_cn_Bath => kernel_rfl)
    (case h_ct_Bath => kernel_rfl)
    (case h_cm_Bath => kernel_rfl)
    (case h_ki_Bath => kernel_rfl)
    (case h_m_TrayD_initD => kernel_rfl)
    (case h_i_TrayD_initD => kernel_rfl)
    (case h_m_Tray_do => kernel_rfl)
    (case h_i_Tray_do => kernel_rfl)
    (case h_pg_Tray => kernel_rfl)
    (case h_po_Tray => kernel_rfl)
    (case h_sa_Tray => kernel_rfl)
    (case h_hd_Tray => kernel_rfl)
    (case h_mk_Tray => kernel_rfl)
    (case h_kc_Tray => kernel_rfl)
    (case h_fa_Tray_size => kernel_rfl)
    (case h_fa_Tray_things => kernel_rfl)
    (case h_fa_Tray_papers => kernel_rfl)
    (case h_m_RoundsD_initD => kernel_rfl)
    (case h_i_RoundsD_initD => kernel_rfl)
    (case h_m_Rounds_at => kernel_rfl)
    (case h_i_Rounds_at => kernel_rfl)
    (case h_pg_Rounds => kernel_rfl)
    (case h_po_Rounds => kernel_rfl)
    (case h_sa_Rounds => kernel_rfl)
    (case h_hd_Rounds => kernel_rfl)
    (case h_mk_Rounds => kernel_rfl)
    (case h_kc_Rounds => kernel_rfl)
    (case h_fa_Rounds_rows => kernel_rfl)
    (case h_fa_Rounds_begin => kernel_rfl)
    (case h_l_InvalidRecipeD_initD => kernel_rfl)
    (case h_c_InvalidRecipeD_initD => kernel_rfl)
    (case h_k_InvalidRecipeD_initD => kernel_rfl)
    (case h_l_is_number => kernel_rfl)
    (case h_c_is_number => kernel_rfl)
    (case h_k_is_number => kernel_rfl)
    (case h_l_is_letter => kernel_rfl)
    (case h_c_is_letter => kernel_rfl)
    (case h_k_is_letter => kernel_rfl)
    (case h_l_are_signs => kernel_rfl)
    (case h_c_are_signs => kernel_rfl)
    (case h_k_are_signs => kernel_rfl)
    (case h_l_is_size => kernel_rfl)
    (case h_c_is_size => kernel_rfl)
    (case h_k_is_size => kernel_rfl)
    (case h_l_check_size => kernel_rfl)
    (case h_c_check_size => kernel_rfl)
    (case h_k_check_size => kernel_rfl)
    (case h_l_BathD_initD => kernel_rfl)
    (case h_c_BathD_initD => kernel_rfl)
    (case h_k_BathD_initD => kernel_rfl)
    (case h_l_Bath_width => kernel_rfl)
    (case h_c_Bath_width => kernel_rfl)
    (case h_k_Bath_width => kernel_rfl)
    (case h_l_Bath_height => kernel_rfl)
    (case h_c_Bath_height => kernel_rfl)
    (case h_k_Bath_height => kernel_rfl)
    (case h_l_Bath_cells => kernel_rfl)
    (case h_c_Bath_cells => kernel_rfl)
    (case h_k_Bath_cells => kernel_rfl)
    (case h_l_BathD_lenD => kernel_rfl)
    (case h_c_BathD_lenD => kernel_rfl)
    (case h_k_BathD_lenD => kernel_rfl)
    (case h_l_BathD_eqD => kernel_rfl)
    (case h_c_BathD_eqD => kernel_rfl)
    (case h_k_BathD_eqD => kernel_rfl)
    (case h_l_are_strides => kernel_rfl)
    (case h_c_are_strides => kernel_rfl)
    (case h_k_are_strides => kernel_rfl)
    (case h_l_are_cells => kernel_rfl)
    (case h_c_are_cells => kernel_rfl)
    (case h_k_are_cells => kernel_rfl)
    (case h_l_is_draw => kernel_rfl)
    (case h_c_is_draw => kernel_rfl)
    (case h_k_is_draw => kernel_rfl)
    (case h_l_is_deed => kernel_rfl)
    (case h_c_is_deed => kernel_rfl)
    (case h_k_is_deed => kernel_rfl)
    (case h_l_check_recipe => kernel_rfl)
    (case h_c_check_recipe => kernel_rfl)
    (case h_k_check_recipe => kernel_rfl)
    (case h_l_drawn => kernel_rfl)
    (case h_c_drawn => kernel_rfl)
    (case h_k_drawn => kernel_rfl)
    (case h_l_pushed => kernel_rfl)
    (case h_c_pushed => kernel_rfl)
    (case h_k_pushed => kernel_rfl)
    (case h_l_TrayD_initD => kernel_rfl)
    (case h_c_TrayD_initD => kernel_rfl)
    (case h_k_TrayD_initD => kernel_rfl)
    (case h_l_Tray_do => kernel_rfl)
    (case h_c_Tray_do => kernel_rfl)
    (case h_k_Tray_do => kernel_rfl)
    (case h_l_all_steps => kernel_rfl)
    (case h_c_all_steps => kernel_rfl)
    (case h_k_all_steps => kernel_rfl)
    (case h_l_done => kernel_rfl)
    (case h_c_done => kernel_rfl)
    (case h_k_done => kernel_rfl)
    (case h_l_check_cell => kernel_rfl)
    (case h_c_check_cell => kernel_rfl)
    (case h_k_check_cell => kernel_rfl)
    (case h_l_ahead_of => kernel_rfl)
    (case h_c_ahead_of => kernel_rfl)
    (case h_k_ahead_of => kernel_rfl)
    (case h_l_last_drops => kernel_rfl)
    (case h_c_last_drops => kernel_rfl)
    (case h_k_last_drops => kernel_rfl)
    (case h_l_check_colours => kernel_rfl)
    (case h_c_check_colours => kernel_rfl)
    (case h_k_check_colours => kernel_rfl)
    (case h_l_known_ahead => kernel_rfl)
    (case h_c_known_ahead => kernel_rfl)
    (case h_k_known_ahead => kernel_rfl)
    (case h_l_fits => kernel_rfl)
    (case h_c_fits => kernel_rfl)
    (case h_k_fits => kernel_rfl)
    (case h_l_ahead_count => kernel_rfl)
    (case h_c_ahead_count => kernel_rfl)
    (case h_k_ahead_count => kernel_rfl)
    (case h_l_first_ahead => kernel_rfl)
    (case h_c_first_ahead => kernel_rfl)
    (case h_k_first_ahead => kernel_rfl)
    (case h_l_RoundsD_initD => kernel_rfl)
    (case h_c_RoundsD_initD => kernel_rfl)
    (case h_k_RoundsD_initD => kernel_rfl)
    (case h_l_Rounds_at => kernel_rfl)
    (case h_c_Rounds_at => kernel_rfl)
    (case h_k_Rounds_at => kernel_rfl)
    (case h_l_period => kernel_rfl)
    (case h_c_period => kernel_rfl)
    (case h_k_period => kernel_rfl)
    (case h_l_check_few => kernel_rfl)
    (case h_c_check_few => kernel_rfl)
    (case h_k_check_few => kernel_rfl)
    (case h_l_check_cells => kernel_rfl)
    (case h_c_check_cells => kernel_rfl)
    (case h_k_check_cells => kernel_rfl)
    (case h_l_all_strides => kernel_rfl)
    (case h_c_all_strides => kernel_rfl)
    (case h_k_all_strides => kernel_rfl)
    (case h_l_all_draws => kernel_rfl)
    (case h_c_all_draws => kernel_rfl)
    (case h_k_all_draws => kernel_rfl)
    (case h_l_draw_levels => kernel_rfl)
    (case h_c_draw_levels => kernel_rfl)
    (case h_k_draw_levels => kernel_rfl)
    (case h_l_draw_count => kernel_rfl)
    (case h_c_draw_count => kernel_rfl)
    (case h_k_draw_count => kernel_rfl)
    (case h_l_fewest_draws => kernel_rfl)
    (case h_c_fewest_draws => kernel_rfl)
    (case h_k_fewest_draws => kernel_rfl)
    (case h_l_check_drops => kernel_rfl)
    (case h_c_check_drops => kernel_rfl)
    (case h_k_check_drops => kernel_rfl)
    (case h_l_dropped => kernel_rfl)
    (case h_c_dropped => kernel_rfl)
    (case h_k_dropped => kernel_rfl)
    (case h_l_first_way => kernel_rfl)
    (case h_c_first_way => kernel_rfl)
    (case h_k_first_way => kernel_rfl)
    (case h_l_first_drops => kernel_rfl)
    (case h_c_first_drops => kernel_rfl)
    (case h_k_first_drops => kernel_rfl)
    (case h_l_fewest_drops => kernel_rfl)
    (case h_c_fewest_drops => kernel_rfl)
    (case h_k_fewest_drops => kernel_rfl)
    (case h_l_choices => kernel_rfl)
    (case h_c_choices => kernel_rfl)
    (case h_k_choices => kernel_rfl)
    (case h_l_colourings => kernel_rfl)
    (case h_c_colourings => kernel_rfl)
    (case h_k_colourings => kernel_rfl)
    (case h_l_recipes_of_drops => kernel_rfl)
    (case h_c_recipes_of_drops => kernel_rfl)
    (case h_k_recipes_of_drops => kernel_rfl)
    (case h_l_origins_of => kernel_rfl)
    (case h_c_origins_of => kernel_rfl)
    (case h_k_origins_of => kernel_rfl)
    (case h_l_sources => kernel_rfl)
    (case h_c_sources => kernel_rfl)
    (case h_k_sources => kernel_rfl)
    (case h_l_copies_of => kernel_rfl)
    (case h_c_copies_of => kernel_rfl)
    (case h_k_copies_of => kernel_rfl)
    (case h_l_lost => kernel_rfl)
    (case h_c_lost => kernel_rfl)
    (case h_k_lost => kernel_rfl)
    (case h_l_shown => kernel_rfl)
    (case h_c_shown => kernel_rfl)
    (case h_k_shown => kernel_rfl)
    (case h_l_outcome => kernel_rfl)
    (case h_c_outcome => kernel_rfl)
    (case h_k_outcome => kernel_rfl)
    (case h_l_check_two => kernel_rfl)
    (case h_c_check_two => kernel_rfl)
    (case h_k_check_two => kernel_rfl)
    (case h_l_are_alike => kernel_rfl)
    (case h_c_are_alike => kernel_rfl)
    (case h_k_are_alike => kernel_rfl)
    (case h_l_alike => kernel_rfl)
    (case h_c_alike => kernel_rfl)
    (case h_k_alike => kernel_rfl)
    (case h_l_texts => kernel_rfl)
    (case h_c_texts => kernel_rfl)
    (case h_k_texts => kernel_rfl)
    (case h_l_parting_bath => kernel_rfl)
    (case h_c_parting_bath => kernel_rfl)
    (case h_k_parting_bath => kernel_rfl)
    (case h_l_check_papers => kernel_rfl)
    (case h_c_check_papers => kernel_rfl)
    (case h_k_check_papers => kernel_rfl)
    (case h_l_told => kernel_rfl)
    (case h_c_told => kernel_rfl)
    (case h_k_told => kernel_rfl)
    (case h_l_plain => kernel_rfl)
    (case h_c_plain => kernel_rfl)
    (case h_k_plain => kernel_rfl)
    (case h_l_turned_back => kernel_rfl)
    (case h_c_turned_back => kernel_rfl)
    (case h_k_turned_back => kernel_rfl)
    (case h_l_short => kernel_rfl)
    (case h_c_short => kernel_rfl)
    (case h_k_short => kernel_rfl)
    (case h_l_shortened => kernel_rfl)
    (case h_c_shortened => kernel_rfl)
    (case h_k_shortened => kernel_rfl)
    (case h_l_undoing => kernel_rfl)
    (case h_c_undoing => kernel_rfl)
    (case h_k_undoing => kernel_rfl)
    (case h_l__law_taken => kernel_rfl)
    (case h_c__law_taken => kernel_rfl)
    (case h_k__law_taken => kernel_rfl)
    (case h_l__law_raised => kernel_rfl)
    (case h_c__law_raised => kernel_rfl)
    (case h_k__law_raised => kernel_rfl)
    (case h_l__law_one => kernel_rfl)
    (case h_c__law_one => kernel_rfl)
    (case h_k__law_one => kernel_rfl)
    (case h_l__law_cross => kernel_rfl)
    (case h_c__law_cross => kernel_rfl)
    (case h_k__law_cross => kernel_rfl)
    (case h_l_law => kernel_rfl)
    (case h_c_law => kernel_rfl)
    (case h_k_law => kernel_rfl)
    (case h_nol => kernel_rfl)

