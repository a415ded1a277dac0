import PyProof.Rows.All
import Wide.All
import OpenK.AllK
import Wide.FinOn
import HandS.ForMost
import HandS.Exc
import HandS.ExcOwn
import HandS.ExcInit
import HandS.Lambda
import HandS.Defaults
import HandS.IsInst
import HandS.TupAny
import HandS.TupMul
import HandS.Conv
import HandS.Deep
import HandS.More
import HandS.Wide
import HandS.Replace
import KE.GoesEnum
import HandS.Iter
import KE.KUnpack
import PyProof.StrOps2
import HandS.Style
import HandS.SetFor
import HandS.Strs
import PyProof.SetRoads
import PyProof.ReprRoads
import PyProof.ReprLen
import HandS.TryMany
import HandS.ExcField
import HandS.HeadWalk
import HandS.HeadHook4
import HandS.CallSlots
import HandS.Head0
import HandS.Head1
import HandS.Head2
import HandS.HeadEnd
import HandS.HeadHook3
import KE.KStateDown
import PySem.Challenge.RW_passednames_k85_texts_there_and_back
section
set_option Elab.async false
set_option linter.all false
set_option maxRecDepth 100000
set_option maxHeartbeats 1000000
/-! V0: values as data, a store for what changes, and what a heap must have for them. -/
namespace Vl
open PySem PySem.Spec PyProof.Rows L2
open LamX (TabS CodeO)
/-- a value: tuples and lists that nobody changes by what is in them; what changes by its number in the store; scr: the script -/
inductive W where
  | non | bl (b : Bool) | int (i : Int) | str (s : Str) | tup (l : List W) | lst (l : List W) | scr (l : List W) | obj (i : Nat)
  deriving Inhabited
/-- what changes: a list, a dict with text keys; the table P of code objects of the name q -/
inductive MO where
  | L (l : List W) | D (l : List (Str × W)) | tab (P : Addr) (q : Str)
  deriving Inhabited
abbrev Store := List MO
def MO.isTab : MO → Bool
  | .tab _ _ => true
  | _ => false
abbrev Env' := List (Option W)
/-- how something ends: a value; an own error of a class, by its name and its attributes; or nothing is told of it -/
inductive Res (α : Type) where
  | ok (a : α) (st : Store) | exc (c : Str) (fs : List (Str × W)) (st : Store) | bad
abbrev EvE := Env' → Store → Res W
abbrev EvT := Env' → Store → Res Bool
abbrev EvA := Env' → Store → Res (List W)
inductive Out where
  | nx (e : Env') | rt (w : W) | bk (e : Env') | ct (e : Env')
abbrev EvS := Env' → Store → Res Out
def Res.bind {α β : Type} (r : Res α) (k : α → Store → Res β) : Res β := match r with
  | .ok a st => k a st
  | .exc c fs st => .exc c fs st
  | .bad => .bad
theorem Res.bind_ok {α β : Type} {a : α} {st : Store} {k : α → Store → Res β} : (Res.ok a st).bind k = k a st := rfl
theorem Res.bind_exc {α β : Type} {c : Str} {fs : List (Str × W)} {st : Store} {k : α → Store → Res β} : (Res.exc c fs st : Res α).bind k = .exc c fs st := rfl
theorem Res.bind_bad {α β : Type} {k : α → Store → Res β} : (Res.bad : Res α).bind k = .bad := rfl

/-! R: what nobody changes; μ: where the store's things stand -/
mutual
inductive RW (K : PySem.W.Frag) (R : Hp) (μ : List Addr) : W → V → Prop
  | non : RW K R μ .non .non
  | bl (b : Bool) : RW K R μ (.bl b) (.bl b)
  | int (i : Int) : RW K R μ (.int i) (.int i)
  | str (s : Str) : RW K R μ (.str s) (.str s)
  | tup {a : Addr} {vs : List V} {ws : List W} : SqT K R a vs → RWs K R μ ws vs → RW K R μ (.tup ws) (.ref a)
  | lst {a : Addr} {vs : List V} {ws : List W} : R a = some (.lst vs) → RWs K R μ ws vs → RW K R μ (.lst ws) (.ref a)
  | scr {a : Addr} {vs : List V} {ws : List W} : SqL K R a vs → RWs K R μ ws vs → RW K R μ (.scr ws) (.ref a)
  | obj {i : Nat} {a : Addr} : μ[i]? = some a → RW K R μ (.obj i) (.ref a)
inductive RWs (K : PySem.W.Frag) (R : Hp) (μ : List Addr) : List W → List V → Prop
  | nil : RWs K R μ [] []
  | cons {w : W} {v : V} {ws : List W} {vs : List V} : RW K R μ w v → RWs K R μ ws vs → RWs K R μ (w :: ws) (v :: vs)
end
/-- the world grows -/
structure Grow (R : Hp) (μ : List Addr) (R' : Hp) (μ' : List Addr) : Prop where
  r : ∀ (a : Addr) (o : HO), R a = some o → R' a = some o
  m : ∀ (i : Nat) (a : Addr), μ[i]? = some a → μ'[i]? = some a
section
variable {K : PySem.W.Frag} {R R' R'' : Hp} {μ μ' μ'' : List Addr}
theorem rd_mono {a : Addr} {u : HO} (h : ∀ (a : Addr) (o : HO), R a = some o → R' a = some o) (r : Rd R a u) : Rd R' a u := by
  rcases r with r | ⟨o, r⟩
  · exact .inl (h _ _ r)
  · exact .inr ⟨o, h _ _ r⟩
theorem sqT_mono {a : Addr} {xs : List V} (h : ∀ (a : Addr) (o : HO), R a = some o → R' a = some o) (r : SqT K R a xs) : SqT K R' a xs := r.imp (rd_mono h) id
theorem sqL_mono {a : Addr} {xs : List V} (h : ∀ (a : Addr) (o : HO), R a = some o → R' a = some o) (r : SqL K R a xs) : SqL K R' a xs := r.imp (rd_mono h) id
mutual
theorem RW.mono (e : Grow R μ R' μ') : ∀ {w : W} {v : V}, RW K R μ w v → RW K R' μ' w v
  | _, _, .non => .non
  | _, _, .bl b => .bl b
  | _, _, .int i => .int i
  | _, _, .str s => .str s
  | _, _, .tup h r => .tup (sqT_mono e.r h) (RWs.mono e r)
  | _, _, .lst h r => .lst (e.r _ _ h) (RWs.mono e r)
  | _, _, .scr h r => .scr (sqL_mono e.r h) (RWs.mono e r)
  | _, _, .obj h => .obj (e.m _ _ h)
theorem RWs.mono (e : Grow R μ R' μ') : ∀ {ws : List W} {vs : List V}, RWs K R μ ws vs → RWs K R' μ' ws vs
  | _, _, .nil => .nil
  | _, _, .cons h r => .cons (RW.mono e h) (RWs.mono e r)
end
theorem Grow.refl : Grow R μ R μ := ⟨fun _ _ h => h, fun _ _ h => h⟩
theorem Grow.trans (a : Grow R μ R' μ') (b : Grow R' μ' R'' μ'') : Grow R μ R'' μ'' := ⟨fun x o h => b.r x o (a.r x o h), fun i x h => b.m i x (a.m i x h)⟩
theorem RW.grow {w : W} {v : V} (h : RW K R μ w v) (g : Grow R μ R' μ') : RW K R' μ' w v := h.mono g
theorem RWs.grow {ws : List W} {vs : List V} (h : RWs K R μ ws vs) (g : Grow R μ R' μ') : RWs K R' μ' ws vs := h.mono g
theorem RWs.length : ∀ {ws : List W} {vs : List V}, RWs K R μ ws vs → ws.length = vs.length
  | _, _, .nil => rfl
  | _, _, .cons _ r => congrArg (· + 1) (RWs.length r)
theorem RWs.get : ∀ {ws : List W} {vs : List V} {i : Nat} {w : W}, RWs K R μ ws vs → ws[i]? = some w → ∃ v, vs[i]? = some v ∧ RW K R μ w v
  | _, _, _, _, .nil, e => by simp at e
  | _, _, 0, _, .cons h _, e => by simp at e; subst e; exact ⟨_, rfl, h⟩
  | _, _, i + 1, w, .cons _ r, e => by
    obtain ⟨v, h1, h2⟩ := RWs.get (i := i) (w := w) r (by simpa using e)
    exact ⟨v, by simpa using h1, h2⟩
theorem RWs.getV : ∀ {ws : List W} {vs : List V} {i : Nat} {v : V}, RWs K R μ ws vs → vs[i]? = some v → ∃ w, ws[i]? = some w ∧ RW K R μ w v
  | _, _, _, _, .nil, e => by simp at e
  | _, _, 0, _, .cons h _, e => by simp at e; subst e; exact ⟨_, rfl, h⟩
  | _, _, i + 1, v, .cons _ r, e => by
    obtain ⟨w, h1, h2⟩ := RWs.getV (i := i) (v := v) r (by simpa using e)
    exact ⟨w, by simpa using h1, h2⟩
theorem RWs.append : ∀ {ws ws' : List W} {vs vs' : List V}, RWs K R μ ws vs → RWs K R μ ws' vs' → RWs K R μ (ws ++ ws') (vs ++ vs')
  | _, _, _, _, .nil, s => s
  | _, _, _, _, .cons h r, s => .cons h (RWs.append r s)
theorem RWs.take : ∀ {ws : List W} {vs : List V} (n : Nat), RWs K R μ ws vs → RWs K R μ (ws.take n) (vs.take n)
  | _, _, 0, _ => .nil
  | _, _, _ + 1, .nil => .nil
  | _, _, n + 1, .cons h r => .cons h (RWs.take n r)
theorem RWs.drop : ∀ {ws : List W} {vs : List V} (n : Nat), RWs K R μ ws vs → RWs K R μ (ws.drop n) (vs.drop n)
  | _, _, 0, r => r
  | _, _, _ + 1, .nil => .nil
  | _, _, n + 1, .cons _ r => RWs.drop n r
theorem RWs.set : ∀ {ws : List W} {vs : List V} {w : W} {v : V} (i : Nat), RW K R μ w v → RWs K R μ ws vs → RWs K R μ (ws.set i w) (vs.set i v)
  | _, _, _, _, _, _, .nil => .nil
  | _, _, _, _, 0, h, .cons _ r => .cons h r
  | _, _, _, _, i + 1, h, .cons q r => .cons q (RWs.set i h r)
theorem RWs.dropLast {ws : List W} {vs : List V} (r : RWs K R μ ws vs) : RWs K R μ ws.dropLast vs.dropLast := by
  rw [List.dropLast_eq_take, List.dropLast_eq_take, ← r.length]
  exact r.take _
theorem RWs.one {w : W} {v : V} (h : RW K R μ w v) : RWs K R μ [w] [v] := .cons h .nil
/-- pairs of a text key and a value -/
inductive RWd (K : PySem.W.Frag) (R : Hp) (μ : List Addr) : List (Str × W) → List (Key × V) → Prop
  | nil : RWd K R μ [] []
  | cons {k : Str} {w : W} {v : V} {ks : List (Str × W)} {vs : List (Key × V)} : RW K R μ w v → RWd K R μ ks vs → RWd K R μ ((k, w) :: ks) ((Sum.inr k, v) :: vs)
theorem RWd.grow : ∀ {ks : List (Str × W)} {vs : List (Key × V)}, RWd K R μ ks vs → Grow R μ R' μ' → RWd K R' μ' ks vs
  | _, _, .nil, _ => .nil
  | _, _, .cons h r, g => .cons (h.grow g) (RWd.grow r g)
/-- attributes -/
inductive RWf (K : PySem.W.Frag) (R : Hp) (μ : List Addr) : List (Str × W) → List (Str × V) → Prop
  | nil : RWf K R μ [] []
  | cons {k : Str} {w : W} {v : V} {ks : List (Str × W)} {vs : List (Str × V)} : RW K R μ w v → RWf K R μ ks vs → RWf K R μ ((k, w) :: ks) ((k, v) :: vs)
theorem RWf.grow : ∀ {ks : List (Str × W)} {vs : List (Str × V)}, RWf K R μ ks vs → Grow R μ R' μ' → RWf K R' μ' ks vs
  | _, _, .nil, _ => .nil
  | _, _, .cons h r, g => .cons (h.grow g) (RWf.grow r g)
theorem RWf.lookup {f : Str} : ∀ {ks : List (Str × W)} {vs : List (Str × V)} {w : W}, RWf K R μ ks vs → ks.lookup f = some w → ∃ v, vs.lookup f = some v ∧ RW K R μ w v
  | _, _, _, .nil, e => by cases e
  | (k, w') :: ks, (_, v') :: vs, w, .cons h r, e => by
    by_cases q : (f == k) = true
    · simp only [List.lookup, q] at e ⊢
      cases e
      exact ⟨_, rfl, h⟩
    · have q' : (f == k) = false := by simpa using q
      simp only [List.lookup, q'] at e ⊢
      exact RWf.lookup r e
/-- what stands at an address for a thing of the store -/
def ObjR (K : PySem.W.Frag) (R : Hp) (μ : List Addr) : MO → Option HO → Prop
  | .L ws, o => ∃ vs, o = some (.lst vs) ∧ RWs K R μ ws vs
  | .D ks, o => ∃ vs, o = some (.dK vs) ∧ RWd K R μ ks vs
  | .tab _ _, o => ∃ ps, o = some (.tbl ps)
theorem ObjR.grow {m : MO} {o : Option HO} (h : ObjR K R μ m o) (g : Grow R μ R' μ') : ObjR K R' μ' m o := by
  cases m with
  | L ws => obtain ⟨vs, e, r⟩ := h; exact ⟨vs, e, r.grow g⟩
  | D ks => obtain ⟨vs, e, r⟩ := h; exact ⟨vs, e, r.grow g⟩
  | tab P q => exact h
theorem ObjR.there_ {m : MO} {o : Option HO} (h : ObjR K R μ m o) : ∃ u, o = some u := by
  cases m with
  | L ws => obtain ⟨vs, e, r⟩ := h; exact ⟨_, e⟩
  | D ks => obtain ⟨vs, e, r⟩ := h; exact ⟨_, e⟩
  | tab P q => obtain ⟨vs, e⟩ := h; exact ⟨_, e⟩
structure HRel (K : PySem.W.Frag) (R : Hp) (μ : List Addr) (st : Store) (H : Hp) : Prop where
  sub : ∀ a o, R a = some o → H a = some o
  dis : ∀ a ∈ μ, R a = none
  nd : μ.Nodup
  len : μ.length = st.length
  at_ : ∀ (i : Nat) (a : Addr) (m : MO), μ[i]? = some a → st[i]? = some m → ObjR K R μ m (H a)
  ntb : ∀ a ps, R a ≠ some (.tbl ps)
  tbs : ∀ (i : Nat) (a P : Addr) (q : Str), μ[i]? = some a → st[i]? = some (.tab P q) → a = P ∧ TabS H P q
theorem tabS_upd {H : Hp} {a P : Addr} {q : Str} {o : HO} (t : TabS H P q) (h1 : ∀ ps, H a ≠ some (.tbl ps)) (h2 : ∀ c q, H a ≠ some (CodeO c q)) : TabS (upd H a o) P q := by
  obtain ⟨ps, e1, e2, e3⟩ := t
  refine ⟨ps, by rw [upd_ne (fun z => h1 ps (by rw [← z]; exact e1))]; exact e1, e2, fun pos cv hc => ?_⟩
  obtain ⟨c, e, ec⟩ := e3 pos cv hc
  exact ⟨c, e, by rw [upd_ne (fun z => h2 c q (by rw [← z]; exact ec))]; exact ec⟩
theorem tabS_new {H : Hp} {p P : Addr} {q : Str} {o : HO} (t : TabS H P q) (hp : H p = none) : TabS (upd H p o) P q := t.ext fun b u e => by rw [upd_ne (ne_of_none e hp)]; exact e
theorem ntb_upd {R : Hp} {p : Addr} {o : HO} (h : ∀ a ps, R a ≠ some (.tbl ps)) (ho : ∀ ps, o ≠ .tbl ps) (a : Addr) (ps : Array Value) : upd R p o a ≠ some (.tbl ps) := by
  by_cases hb : a = p
  · subst hb; rw [upd_same]; exact fun z => ho ps (Option.some.inj z)
  · rw [upd_ne hb]; exact h a ps
theorem codeO_ext {c : Addr} {q : Str} : ∃ T, CodeO c q = .ext T := ⟨_, rfl⟩
/-- what was tracked and is none of the store's stays -/
def Keeps (μ : List Addr) (H H' : Hp) : Prop := ∀ a o, H a = some o → a ∉ μ → (∀ ps, o ≠ .tbl ps) → H' a = some o
theorem Keeps.refl {H : Hp} : Keeps μ H H := fun _ _ h _ _ => h
/-- nothing, or a table of code objects -/
def NoT (H : Hp) (a : Addr) : Prop := ∀ o, H a = some o → ∃ ps, o = .tbl ps
theorem noT_none {H : Hp} {a : Addr} (e : H a = none) : NoT H a := fun o q => by rw [e] at q; cases q
theorem NoT.no {H : Hp} {a : Addr} (h : NoT H a) {o : HO} (e : H a = some o) (n : ∀ ps, o ≠ .tbl ps) : False := let ⟨ps, z⟩ := h o e; n ps z
theorem mem_grow {a : Addr} (h : a ∈ μ) (g : Grow R μ R' μ') : a ∈ μ' := by
  obtain ⟨i, e⟩ := List.getElem?_of_mem h
  exact List.mem_of_getElem? (g.m i a e)
section
variable {st st' : Store} {H H' H'' : Hp}
theorem HRel.there_ (h : HRel K R μ st H) {a : Addr} (hm : a ∈ μ) : ∃ u, H a = some u := by
  obtain ⟨i, e⟩ := List.getElem?_of_mem hm
  have hi : i < st.length := by
    have := (List.getElem?_eq_some_iff.mp e).1
    rw [← h.len]; exact this
  exact (h.at_ i a st[i] e (List.getElem?_eq_getElem hi)).there_
/-- Keeps, one after the other: what was tracked ahead and none of the store's is none of the later store's (those are new) -/
structure After (K : PySem.W.Frag) (R : Hp) (μ : List Addr) (H : Hp) (R' : Hp) (μ' : List Addr) (st' : Store) (H' : Hp) : Prop where
  g : Grow R μ R' μ'
  k : Keeps μ H H'
  h : HRel K R' μ' st' H'
  new : ∀ a ∈ μ', a ∉ μ → NoT H a
  nr : ∀ a o, R' a = some o → R a = none → a ∉ μ → NoT H a
theorem After.refl (h : HRel K R μ st H) : After K R μ H R μ st H := ⟨.refl, .refl, h, fun _ z n => absurd z n, fun a o e n _ => by rw [n] at e; cases e⟩
/-- the part of After that says nothing of the store -/
structure Since (R : Hp) (μ : List Addr) (H : Hp) (R' : Hp) (μ' : List Addr) (H' : Hp) : Prop where
  g : Grow R μ R' μ'
  k : Keeps μ H H'
  new : ∀ a ∈ μ', a ∉ μ → NoT H a
  nr : ∀ a o, R' a = some o → R a = none → a ∉ μ → NoT H a
theorem After.since (a : After K R μ H R' μ' st' H') : Since R μ H R' μ' H' := ⟨a.g, a.k, a.new, a.nr⟩
theorem Since.then_ (a : Since R μ H R' μ' H') {st'' : Store} (b : After K R' μ' H' R'' μ'' st'' H'') : After K R μ H R'' μ'' st'' H'' where
  g := a.g.trans b.g
  k := fun x o e n nt => by
    by_cases hx : x ∈ μ'
    · exact ((a.new x hx n).no e nt).elim
    · exact b.k x o (a.k x o e n nt) hx nt
  h := b.h
  new := fun x hx n => by
    by_cases hm : x ∈ μ'
    · exact a.new x hm n
    · intro o e
      refine Classical.byContradiction fun hn => ?_
      have nt : ∀ ps, o ≠ .tbl ps := fun ps z => hn ⟨ps, z⟩
      exact (b.new x hx hm).no (a.k x o e n nt) nt
  nr := fun x o e n hn => by
    cases e1 : R' x with
    | some u => exact a.nr x u e1 n hn
    | none =>
      by_cases hm : x ∈ μ'
      · exact a.new x hm hn
      · intro u e2
        refine Classical.byContradiction fun hn2 => ?_
        have nt : ∀ ps, u ≠ .tbl ps := fun ps z => hn2 ⟨ps, z⟩
        exact (b.nr x o e e1 hm).no (a.k x u e2 hn nt) nt
theorem After.trans (a : After K R μ H R' μ' st' H') {st'' : Store} (b : After K R' μ' H' R'' μ'' st'' H'') : After K R μ H R'' μ'' st'' H'' := a.since.then_ b
/-- a new thing that nobody changes -/
theorem HRel.fresh (h : HRel K R μ st H) {p : Addr} (hp : H p = none) : R p = none ∧ p ∉ μ := by
  refine ⟨?_, fun hm => ?_⟩
  · cases e : R p with
    | none => rfl
    | some o => rw [h.sub p o e] at hp; cases hp
  · obtain ⟨u, e⟩ := h.there_ hm
    rw [e] at hp; cases hp
theorem HRel.growR (h : HRel K R μ st H) {p : Addr} (hp : H p = none) (o : HO) : Grow R μ (upd R p o) μ := ⟨fun a u e => by
    rw [upd_ne (fun z => by rw [z, (h.fresh hp).1] at e; cases e)]; exact e, fun _ _ e => e⟩
theorem HRel.newR (h : HRel K R μ st H) {p : Addr} (hp : H p = none) (o : HO) (ho : ∀ ps, o ≠ .tbl ps := by intro ps z; cases z) : After K R μ H (upd R p o) μ st (upd H p o) where
  g := h.growR hp o
  k := fun a u e _ _ => by rw [upd_ne (ne_of_none e hp)]; exact e
  new := fun a hm n => absurd hm n
  nr := fun a u e n _ => by
    by_cases ha : a = p
    · rw [ha]; exact noT_none hp
    · rw [upd_ne ha, n] at e; cases e
  h := {
    sub := fun a u e => by
      by_cases ha : a = p
      · subst ha; rw [upd_same] at e ⊢; exact e
      · rw [upd_ne ha] at e ⊢; exact h.sub a u e
    dis := fun a ha => by
      have : a ≠ p := fun z => (h.fresh hp).2 (z ▸ ha)
      rw [upd_ne this]; exact h.dis a ha
    nd := h.nd
    len := h.len
    at_ := fun i a m e1 e2 => by
      have : a ≠ p := fun z => (h.fresh hp).2 (z ▸ List.mem_of_getElem? e1)
      rw [upd_ne this]
      exact (h.at_ i a m e1 e2).grow (h.growR hp o)
    ntb := ntb_upd h.ntb ho
    tbs := fun i a P q e1 e2 => let ⟨z, t⟩ := h.tbs i a P q e1 e2; ⟨z, tabS_new t hp⟩ }
/-- a new thing of the store -/
theorem grow_snoc {p : Addr} : Grow R μ R (μ ++ [p]) := ⟨fun _ _ e => e, fun i a e => by
  rw [List.getElem?_append_left (List.getElem?_eq_some_iff.mp e).1]; exact e⟩
theorem HRel.newM (h : HRel K R μ st H) {p : Addr} (hp : H p = none) {o : HO} {m : MO} (hm : ObjR K R μ m (some o)) (nt : m.isTab = false := by rfl) : After K R μ H R (μ ++ [p]) (st ++ [m]) (upd H p o) where
  g := grow_snoc
  k := fun a u e _ _ => by rw [upd_ne (ne_of_none e hp)]; exact e
  new := fun a ha n => by
    rcases List.mem_append.mp ha with q | q
    · exact absurd q n
    · rw [List.mem_singleton.mp q]; exact noT_none hp
  nr := fun a o e n _ => by rw [n] at e; cases e
  h := {
    sub := fun a u e => by rw [upd_ne (fun z => by rw [z, (h.fresh hp).1] at e; cases e)]; exact h.sub a u e
    dis := fun a ha => by
      rcases List.mem_append.mp ha with q | q
      · exact h.dis a q
      · rw [List.mem_singleton.mp q]; exact (h.fresh hp).1
    nd := List.nodup_append.mpr ⟨h.nd, by simp, fun a ha b hb => by
      rw [List.mem_singleton.mp hb]; rintro rfl; exact (h.fresh hp).2 ha⟩
    len := by simp [h.len]
    at_ := fun i a m' e1 e2 => by
      by_cases hi : i < μ.length
      · rw [List.getElem?_append_left hi] at e1
        rw [List.getElem?_append_left (by rw [← h.len]; exact hi)] at e2
        have : a ≠ p := fun z => (h.fresh hp).2 (z ▸ List.mem_of_getElem? e1)
        rw [upd_ne this]
        exact (h.at_ i a m' e1 e2).grow grow_snoc
      · have hi2 : i = μ.length := by
          have := (List.getElem?_eq_some_iff.mp e1).1
          simp at this; omega
        subst hi2
        rw [List.getElem?_append_right (Nat.le_refl _)] at e1
        rw [List.getElem?_append_right (by rw [h.len]; exact Nat.le_refl _)] at e2
        have e1' : p = a := by simpa using e1
        have e2' : m = m' := by simpa [h.len] using e2
        subst e1' e2'
        rw [upd_same]
        exact hm.grow grow_snoc
    ntb := h.ntb
    tbs := fun i a P q e1 e2 => by
      by_cases hi : i < μ.length
      · rw [List.getElem?_append_left hi] at e1
        rw [List.getElem?_append_left (by rw [← h.len]; exact hi)] at e2
        obtain ⟨z, t⟩ := h.tbs i a P q e1 e2
        exact ⟨z, tabS_new t hp⟩
      · have hi2 : i = μ.length := by
          have := (List.getElem?_eq_some_iff.mp e1).1
          simp at this; omega
        subst hi2
        rw [List.getElem?_append_right (by rw [h.len]; exact Nat.le_refl _)] at e2
        have e2' : m = .tab P q := by simpa [h.len] using e2
        rw [e2'] at nt
        cases nt }
/-- a thing of the store is changed -/
theorem nd_at (h : μ.Nodup) {i j : Nat} {a : Addr} (e1 : μ[i]? = some a) (e2 : μ[j]? = some a) : i = j := by
  obtain ⟨h1, q1⟩ := List.getElem?_eq_some_iff.mp e1
  obtain ⟨h2, q2⟩ := List.getElem?_eq_some_iff.mp e2
  exact (List.getElem_inj h).mp (q1.trans q2.symm)
theorem ObjR.plain {m : MO} {o : Option HO} (h : ObjR K R μ m o) (nt : m.isTab = false) : (∀ ps, o ≠ some (.tbl ps)) ∧ ∀ c q, o ≠ some (CodeO c q) := by
  cases m with
  | L ws => obtain ⟨vs, e, r⟩ := h; subst e; exact ⟨fun ps z => (nomatch z), fun c q z => by
    obtain ⟨T, e⟩ := @codeO_ext c q
    rw [e] at z
    cases z⟩
  | D ks => obtain ⟨vs, e, r⟩ := h; subst e; exact ⟨fun ps z => (nomatch z), fun c q z => by
    obtain ⟨T, e⟩ := @codeO_ext c q
    rw [e] at z
    cases z⟩
  | tab P q => cases nt
theorem HRel.setM (h : HRel K R μ st H) {i : Nat} {a : Addr} (hi : μ[i]? = some a) {m0 : MO} (he : st[i]? = some m0) {o : HO} {m : MO} (hm : ObjR K R μ m (some o)) (nt0 : m0.isTab = false := by rfl) (nt : m.isTab = false := by rfl) : After K R μ H R μ (st.set i m) (upd H a o) where
  g := .refl
  k := fun b u e n _ => by
    have hne : b ≠ a := fun z => n (by rw [z]; exact List.mem_of_getElem? hi)
    rw [upd_ne hne]; exact e
  new := fun a hm n => absurd hm n
  nr := fun a o e n _ => by rw [n] at e; cases e
  h := {
    sub := fun b u e => by
      rw [upd_ne (fun z => by rw [z, h.dis a (List.mem_of_getElem? hi)] at e; cases e)]; exact h.sub b u e
    dis := h.dis
    nd := h.nd
    len := by rw [List.length_set]; exact h.len
    at_ := fun j b m' e1 e2 => by
      by_cases hj : j = i
      · subst hj
        have : a = b := by rw [hi] at e1; exact Option.some.inj e1
        subst this
        have hl : j < st.length := by rw [← h.len]; exact (List.getElem?_eq_some_iff.mp hi).1
        rw [List.getElem?_set_self hl] at e2
        cases e2
        rw [upd_same]; exact hm
      · rw [List.getElem?_set_ne (Ne.symm hj)] at e2
        have : b ≠ a := fun z => hj (nd_at h.nd (z ▸ e1) hi)
        rw [upd_ne this]
        exact h.at_ j b m' e1 e2
    ntb := h.ntb
    tbs := fun j b P q e1 e2 => by
      by_cases hj : j = i
      · subst hj
        have hl : j < st.length := by rw [← h.len]; exact (List.getElem?_eq_some_iff.mp hi).1
        rw [List.getElem?_set_self hl] at e2
        rw [Option.some.inj e2] at nt
        cases nt
      · rw [List.getElem?_set_ne (Ne.symm hj)] at e2
        obtain ⟨z, t⟩ := h.tbs j b P q e1 e2
        obtain ⟨p1, p2⟩ := (h.at_ i a m0 hi he).plain nt0
        exact ⟨z, tabS_upd t p1 p2⟩ }
end
/-- the slots -/
structure EnvR (K : PySem.W.Frag) (R : Hp) (μ : List Addr) (env : Env') (σ : L2.St) : Prop where
  len : env.length = σ.length
  at_ : ∀ (i : Nat) (w : W), env[i]? = some (some w) → ∃ v, σ[i]? = some (some v) ∧ RW K R μ w v
theorem EnvR.grow {env : Env'} {σ : L2.St} (h : EnvR K R μ env σ) (g : Grow R μ R' μ') : EnvR K R' μ' env σ := ⟨h.len, fun i w e => let ⟨v, q, r⟩ := h.at_ i w e; ⟨v, q, r.grow g⟩⟩
theorem EnvR.set {env : Env'} {σ : L2.St} (h : EnvR K R μ env σ) {w : W} {v : V} (r : RW K R μ w v) (i : Nat) : EnvR K R μ (env.set i (some w)) (σ.set i (some v)) := by
  refine ⟨by simp [h.len], fun j w' e => ?_⟩
  by_cases hj : j = i
  · subst hj
    have hl : j < env.length := by
      have := (List.getElem?_eq_some_iff.mp e).1
      simpa using this
    rw [List.getElem?_set_self hl] at e
    cases e
    exact ⟨v, List.getElem?_set_self (by rw [← h.len]; exact hl), r⟩
  · rw [List.getElem?_set_ne (Ne.symm hj)] at e
    obtain ⟨v', q, r'⟩ := h.at_ j w' e
    exact ⟨v', by rw [List.getElem?_set_ne (Ne.symm hj)]; exact q, r'⟩
end
end Vl
end
section
set_option Elab.async false
set_option linter.all false
set_option maxRecDepth 100000
set_option maxHeartbeats 1000000
/-! V1: what an expression makes, as a function of slots and store; the rules that lead there. -/
namespace L2
open PySem PySem.Spec PyProof.Rows
theorem PE.imp {X : Cx} {e : Expr} {t t' : TE} (h : PE X e t) (q : ∀ σ H Q, t' σ H Q → t σ H Q) : PE X e t' := ⟨fun pins s σ H Q I z => h.run pins s σ H Q I (q _ _ _ z)⟩
theorem PA.imp {X : Cx} {es : List Expr} {t t' : TA} (h : PA X es t) (q : ∀ σ H Q, t' σ H Q → t σ H Q) : PA X es t' := ⟨fun pos pins s σ H Q I z => h.run pos pins s σ H Q I (q _ _ _ z)⟩
theorem PT.imp {X : Cx} {e : Expr} {t t' : TT} (h : PT X e t) (q : ∀ σ H Q, t' σ H Q → t σ H Q) : PT X e t' := ⟨fun pins s σ H Q I z => h.run pins s σ H Q I (q _ _ _ z)⟩
theorem PW.imp {X : Cx} {e : Expr} {t t' : TT} (h : PW X e t) (q : ∀ σ H Q, t' σ H Q → t σ H Q) : PW X e t' := ⟨fun wh pins s σ H Q I z => h.run wh pins s σ H Q I (q _ _ _ z)⟩
theorem PS.imp {X : Cx} {e : Stmt} {t t' : TS} (h : PS X e t) (q : ∀ D σ H, t' D σ H → t D σ H) : PS X e t' := ⟨fun pins s σ H D I z => h.run pins s σ H D I (q _ _ _ z)⟩
theorem PSs.imp {X : Cx} {e : List Stmt} {t t' : TS} (h : PSs X e t) (q : ∀ D σ H, t' D σ H → t D σ H) : PSs X e t' := ⟨fun pins s σ H D I z => h.run pins s σ H D I (q _ _ _ z)⟩
end L2
namespace Vl
open PySem PySem.Spec PyProof.Rows L2
/-- how an end is told: E of an error, G of a value -/
def Post (K : PySem.W.Frag) (ec : Str → Addr) (R : Hp) (μ : List Addr) (H : Hp) (E : XK) {α : Type} (G : α → Store → Hp → List Addr → Hp → Prop) : Res α → Prop
  | .ok a st' => ∀ (R' : Hp) (μ' : List Addr) (H' : Hp), After K R μ H R' μ' st' H' → G a st' R' μ' H'
  | .exc c fs st' => ∀ (R' : Hp) (μ' : List Addr) (H' : Hp) (d : Addr) (vs : List (Str × V)), After K R μ H R' μ' st' H' → R' d = some (.xd vs) → RWf K R' μ' fs vs → E (.ref (ec c)) (some d) H'
  | .bad => False
section
variable {K : PySem.W.Frag} {ec : Str → Addr} {R : Hp} {μ : List Addr} {H : Hp} {E : XK} {α β : Type}
theorem Post.mono {G G' : α → Store → Hp → List Addr → Hp → Prop} {E' : XK} {r : Res α} (h : Post K ec R μ H E G r) (hG : ∀ a st' R' μ' H', After K R μ H R' μ' st' H' → G a st' R' μ' H' → G' a st' R' μ' H')
    (hE : ∀ c d H', E c d H' → E' c d H' := by exact fun _ _ _ z => z) : Post K ec R μ H E' G' r := by
  cases r with
  | ok a st' => exact fun R' μ' H' q => hG _ _ _ _ _ q (h R' μ' H' q)
  | exc c fs st' => exact fun R' μ' H' d vs q e r => hE _ _ _ (h R' μ' H' d vs q e r)
  | bad => exact h
theorem Post.seq {G : β → Store → Hp → List Addr → Hp → Prop} {r : Res α} {k : α → Store → Res β} (h : Post K ec R μ H E G (r.bind k)) :
    Post K ec R μ H E (fun a st' R' μ' H' => After K R μ H R' μ' st' H' ∧ Post K ec R' μ' H' E G (k a st')) r := by
  cases r with
  | ok a st' =>
    intro R' μ' H' q
    refine ⟨q, ?_⟩
    have h' : Post K ec R μ H E G (k a st') := h
    cases e : k a st' with
    | ok b st2 => rw [e] at h'; exact fun R2 μ2 H2 q2 => h' R2 μ2 H2 (q.trans q2)
    | exc c fs st2 => rw [e] at h'; exact fun R2 μ2 H2 d vs q2 e2 r2 => h' R2 μ2 H2 d vs (q.trans q2) e2 r2
    | bad => rw [e] at h'; exact h'
  | exc c fs st' => exact h
  | bad => exact h
/-- a value that is there already -/
theorem Post.now {G : α → Store → Hp → List Addr → Hp → Prop} {a : α} {st : Store} (h : Post K ec R μ H E G (.ok a st)) (q : HRel K R μ st H) : G a st R μ H := h R μ H (.refl q)
end
/-- the wanted end of a value, of a list of values, of a test -/
def GV (K : PySem.W.Frag) (Q : VK) : W → Store → Hp → List Addr → Hp → Prop := fun w _ R' μ' H' => ∀ v, RW K R' μ' w v → Q v H'
def GA (K : PySem.W.Frag) (Q : List V → Hp → Prop) : List W → Store → Hp → List Addr → Hp → Prop := fun ws _ R' μ' H' => ∀ vs, RWs K R' μ' ws vs → Q vs H'
def GT (Q : Bool → Hp → Prop) : Bool → Store → Hp → List Addr → Hp → Prop := fun b _ _ _ H' => Q b H'
def tEv (K : PySem.W.Frag) (ec : Str → Addr) (Wx : WX) (f : EvE) : TE := fun σ H Q => ∃ R μ env st, EnvR K R μ env σ ∧ HRel K R μ st H ∧ Post K ec R μ H (fun c d H' => Wx c d σ H') (GV K Q) (f env st)
def tAv (K : PySem.W.Frag) (ec : Str → Addr) (Wx : WX) (f : EvA) : TA := fun σ H Q => ∃ R μ env st, EnvR K R μ env σ ∧ HRel K R μ st H ∧ Post K ec R μ H (fun c d H' => Wx c d σ H') (GA K Q) (f env st)
def tTv (K : PySem.W.Frag) (ec : Str → Addr) (Wx : WX) (f : EvT) : TT := fun σ H Q => ∃ R μ env st, EnvR K R μ env σ ∧ HRel K R μ st H ∧ Post K ec R μ H (fun c d H' => Wx c d σ H') (GT Q) (f env st)
abbrev PV (X : Cx) (ec : Str → Addr) (Wx : WX) (e : Expr) (f : EvE) : Prop := PE X e (tEv X.K ec Wx f)
abbrev PAV (X : Cx) (ec : Str → Addr) (Wx : WX) (es : List Expr) (f : EvA) : Prop := PA X es (tAv X.K ec Wx f)
abbrev PTV (X : Cx) (ec : Str → Addr) (Wx : WX) (e : Expr) (f : EvT) : Prop := PT X e (tTv X.K ec Wx f)
section
variable {K : PySem.W.Frag} {ec : Str → Addr} {Wx : WX}
/-- one part ahead: the reading of a part, then what follows -/
theorem ev_step {fa : EvE} {k : W → Store → Res W} {σ : L2.St} {H : Hp} {Q : VK} {Q1 : VK} {R : Hp} {μ : List Addr} {env : Env'} {st : Store} (he : EnvR K R μ env σ) (hh : HRel K R μ st H)
    (hp : Post K ec R μ H (fun c d H' => Wx c d σ H') (GV K Q) ((fa env st).bind k))
    (h : ∀ a st1 R1 μ1 H1 v, After K R μ H R1 μ1 st1 H1 → EnvR K R1 μ1 env σ → RW K R1 μ1 a v → Post K ec R1 μ1 H1 (fun c d H' => Wx c d σ H') (GV K Q) (k a st1) → Q1 v H1) : tEv K ec Wx fa σ H Q1 :=
  ⟨R, μ, env, st, he, hh, hp.seq.mono fun a st1 R1 μ1 H1 _ q v r => h a st1 R1 μ1 H1 v q.1 (he.grow q.1.g) r q.2⟩
/-- .. in a wider end -/
theorem ev_stepG {α : Type} {G : α → Store → Hp → List Addr → Hp → Prop} {fa : EvE} {k : W → Store → Res α} {σ : L2.St} {H : Hp} {Q1 : VK} {R : Hp} {μ : List Addr} {env : Env'} {st : Store} (he : EnvR K R μ env σ) (hh : HRel K R μ st H)
    (hp : Post K ec R μ H (fun c d H' => Wx c d σ H') G ((fa env st).bind k))
    (h : ∀ a st1 R1 μ1 H1 v, After K R μ H R1 μ1 st1 H1 → EnvR K R1 μ1 env σ → RW K R1 μ1 a v → Post K ec R1 μ1 H1 (fun c d H' => Wx c d σ H') G (k a st1) → Q1 v H1) : tEv K ec Wx fa σ H Q1 :=
  ⟨R, μ, env, st, he, hh, hp.seq.mono fun a st1 R1 μ1 H1 _ q v r => h a st1 R1 μ1 H1 v q.1 (he.grow q.1.g) r q.2⟩
theorem tv_stepG {α : Type} {G : α → Store → Hp → List Addr → Hp → Prop} {fa : EvT} {k : Bool → Store → Res α} {σ : L2.St} {H : Hp} {Q1 : Bool → Hp → Prop} {R : Hp} {μ : List Addr} {env : Env'} {st : Store} (he : EnvR K R μ env σ) (hh : HRel K R μ st H)
    (hp : Post K ec R μ H (fun c d H' => Wx c d σ H') G ((fa env st).bind k))
    (h : ∀ a st1 R1 μ1 H1, After K R μ H R1 μ1 st1 H1 → EnvR K R1 μ1 env σ → Post K ec R1 μ1 H1 (fun c d H' => Wx c d σ H') G (k a st1) → Q1 a H1) : tTv K ec Wx fa σ H Q1 :=
  ⟨R, μ, env, st, he, hh, hp.seq.mono fun a st1 R1 μ1 H1 _ q => h a st1 R1 μ1 H1 q.1 (he.grow q.1.g) q.2⟩
theorem av_stepG {α : Type} {G : α → Store → Hp → List Addr → Hp → Prop} {fa : EvA} {k : List W → Store → Res α} {σ : L2.St} {H : Hp} {Q1 : List V → Hp → Prop} {R : Hp} {μ : List Addr} {env : Env'} {st : Store} (he : EnvR K R μ env σ) (hh : HRel K R μ st H)
    (hp : Post K ec R μ H (fun c d H' => Wx c d σ H') G ((fa env st).bind k))
    (h : ∀ a st1 R1 μ1 H1 vs, After K R μ H R1 μ1 st1 H1 → EnvR K R1 μ1 env σ → RWs K R1 μ1 a vs → Post K ec R1 μ1 H1 (fun c d H' => Wx c d σ H') G (k a st1) → Q1 vs H1) : tAv K ec Wx fa σ H Q1 :=
  ⟨R, μ, env, st, he, hh, hp.seq.mono fun a st1 R1 μ1 H1 _ q vs r => h a st1 R1 μ1 H1 vs q.1 (he.grow q.1.g) r q.2⟩
end

/-! ### names and constants -/
def eVar (i : Nat) : EvE := fun env st => match env[i]? with
  | some (some w) => .ok w st
  | _ => .bad
def eC (w : W) : EvE := fun _ st => .ok w st
section
variable {X : Cx} {ec : Str → Addr} {Wx : WX} {pos : Pos} {a b c e : Expr} {es : List Expr} {fa fb fc : EvE}
theorem pv_var {i : Nat} {x : Str} (hN : X.N[i]? = some x) (hv : Vis X.env.scope x) (hd : (x == ("__debug__" : Str)) = false := by decide) (hcd : (x == ("__classdict__" : Str)) = false := by decide) : PV X ec Wx (.Name x pos) (eVar i) :=
  (pe_var hN hv hd hcd).imp fun σ H Q ⟨R, μ, env, st, he, hh, hp⟩ => by
    unfold eVar at hp
    split at hp
    · rename_i w e
      obtain ⟨v, q, r⟩ := he.at_ i w e
      exact ⟨v, q, hp.now hh v r⟩
    · exact hp.elim
theorem pv_c {t : TE} {v : V} {w : W} (h : PE X e (tC v)) (hw : ∀ R μ, RW X.K R μ w v) : PV X ec Wx e (eC w) :=
  h.imp fun σ H Q ⟨R, μ, env, st, he, hh, hp⟩ => hp.now hh v (hw R μ)
theorem pv_int {i : Int} {j : Nat} : PV X ec Wx (.Constant (.int i) j pos) (eC (.int i)) := pv_c (t := tC (.int i)) pe_int fun _ _ => .int i
theorem pv_str {x : Str} {j : Nat} : PV X ec Wx (.Constant (.str x) j pos) (eC (.str x)) := pv_c (t := tC (.str x)) pe_str fun _ _ => .str x
theorem pv_bl {x : Bool} {j : Nat} : PV X ec Wx (.Constant (.bool x) j pos) (eC (.bl x)) := pv_c (t := tC (.bl x)) pe_bl fun _ _ => .bl x
theorem pv_non {j : Nat} : PV X ec Wx (.Constant .none j pos) (eC .non) := pv_c (t := tC .non) pe_non fun _ _ => .non

/-! ### two parts and an operation -/
/-- what an operation's rule asks is given by k -/
def Sem2 (K : PySem.W.Frag) (r : R2) (k : W → W → Store → Res W) : Prop := ∀ (ec : Str → Addr) (R : Hp) (μ : List Addr) (st : Store) (H : Hp) (E : XK) (Q : VK) (a b : W) (x y : V), HRel K R μ st H → RW K R μ a x → RW K R μ b y →
  Post K ec R μ H E (GV K Q) (k a b st) → r x y H Q
def e2 (k : W → W → Store → Res W) (fa fb : EvE) : EvE := fun env st => (fa env st).bind fun a st1 => (fb env st1).bind fun b st2 => k a b st2
theorem op2 {K : PySem.W.Frag} {r : R2} {k : W → W → Store → Res W} (hs : Sem2 K r k) (σ : L2.St) (H : Hp) (Q : VK) (h : tEv K ec Wx (e2 k fa fb) σ H Q) : tOp r (tEv K ec Wx fa) (tEv K ec Wx fb) σ H Q := by
  obtain ⟨R, μ, env, st, he, hh, hp⟩ := h
  refine ev_step he hh hp fun a st1 R1 μ1 H1 x q1 he1 ra hp1 => ?_
  refine ev_step he1 q1.h hp1 fun b st2 R2 μ2 H2 y q2 he2 rb hp2 => ?_
  exact hs ec R2 μ2 st2 H2 _ Q a b x y q2.h (ra.grow q2.g) rb hp2
theorem pv_op2 {op : Operator} {r : R2} {k : W → W → Store → Res W} (ho : OpR X (binaryOp op) r) (hs : Sem2 X.K r k) (ha : PV X ec Wx a fa) (hb : PV X ec Wx b fb) : PV X ec Wx (.BinOp a op b pos) (e2 k fa fb) :=
  (pe_op ho ha hb).imp fun σ H Q h => op2 hs σ H Q h
theorem pv_cmp {op : CmpOp} {r : R2} {k : W → W → Store → Res W} (ho : OpR X (compareOp op) r) (hs : Sem2 X.K r k) (ha : PV X ec Wx a fa) (hb : PV X ec Wx b fb) (hm : behindInMarks op b = false) : PV X ec Wx (.Compare a [op] [b] pos) (e2 k fa fb) :=
  (pe_cmpR ho ha hb hm).imp fun σ H Q h => op2 hs σ H Q h
theorem pv_ix {r : R2} {k : W → W → Store → Res W} (hr : IxR X r) (hs : Sem2 X.K r k) (ha : PV X ec Wx a fa) (hb : PV X ec Wx b fb) (hp : PlainIx b) : PV X ec Wx (.Subscript a b pos) (e2 k fa fb) :=
  (pe_ix hr ha hb hp).imp fun σ H Q h => op2 hs σ H Q h
/-- a bool as a test -/
def asB : W → Store → Res Bool
  | .bl b, st => .ok b st
  | _, _ => .bad
def eT (f : EvE) : EvT := fun env st => (f env st).bind asB
def tE (f : EvT) : EvE := fun env st => (f env st).bind fun b st1 => .ok (.bl b) st1
theorem asB_post {K : PySem.W.Frag} {R : Hp} {μ : List Addr} {H : Hp} {E : XK} {G : Bool → Store → Hp → List Addr → Hp → Prop} {w : W} {v : V} {st : Store} (hh : HRel K R μ st H) (r : RW K R μ w v) (h : Post K ec R μ H E G (asB w st)) :
    ∃ b, v = .bl b ∧ G b st R μ H := by
  cases r with
  | bl b => exact ⟨b, rfl, h.now hh⟩
  | _ => exact h.elim
theorem ptv_val (h : PV X ec Wx e fa) (he : ∀ whole, isTrue e X.env whole = (do let v ← whole; standAt e.pos; holding [v] (truthy v)) := by intro _; rfl) : PTV X ec Wx e (eT fa) :=
  (pt_val h he).imp fun σ H Q ⟨R, μ, env, st, he, hh, hp⟩ => ev_stepG he hh hp fun a st1 R1 μ1 H1 v q1 _ r hp1 => by
    obtain ⟨b, e, g⟩ := asB_post q1.h r hp1
    exact ⟨b, e, g⟩
theorem ptv_cmp {op : CmpOp} {r : R2} {k : W → W → Store → Res W} (ho : OpR X (compareOp op) r) (hs : Sem2 X.K r k) (ha : PV X ec Wx a fa) (hb : PV X ec Wx b fb) (hm : behindInMarks op b = false) : PTV X ec Wx (.Compare a [op] [b] pos) (eT (e2 k fa fb)) :=
  (pt_cmpR ho ha hb hm).imp fun σ H Q ⟨R, μ, env, st, he, hh, hp⟩ => by
    refine op2 hs σ H _ ⟨R, μ, env, st, he, hh, hp.seq.mono fun w st1 R1 μ1 H1 _ q v r => ?_⟩
    obtain ⟨b, e, g⟩ := asB_post q.1.h r q.2
    exact ⟨b, e, g⟩
/-! ### and, or, not -/
variable {ta tb : EvT} {rest : List Expr}
def bAnd (f g : EvT) : EvT := fun env st => (f env st).bind fun b st1 => if b = true then g env st1 else .ok false st1
def bOr (f g : EvT) : EvT := fun env st => (f env st).bind fun b st1 => if b = true then .ok true st1 else g env st1
def bNot (f : EvT) : EvT := fun env st => (f env st).bind fun b st1 => .ok (!b) st1
abbrev PWV (X : Cx) (ec : Str → Addr) (Wx : WX) (e : Expr) (f : EvT) : Prop := PW X e (tTv X.K ec Wx f)
theorem pwv_and1 (h : PTV X ec Wx a ta) : PWV X ec Wx (.BoolOp .And [a] pos) ta := pw_and1 h
theorem pwv_or1 (h : PTV X ec Wx a ta) : PWV X ec Wx (.BoolOp .Or [a] pos) ta := pw_or1 h
theorem pwv_and (h : PTV X ec Wx a ta) (h2 : PWV X ec Wx (.BoolOp .And (b :: rest) pos) tb) : PWV X ec Wx (.BoolOp .And (a :: b :: rest) pos) (bAnd ta tb) :=
  (pw_and h h2).imp fun σ H Q ⟨R, μ, env, st, he, hh, hp⟩ => tv_stepG he hh hp fun b st1 R1 μ1 H1 q1 he1 hp1 => by
    cases b with
    | true => rw [if_pos rfl] at hp1 ⊢; exact ⟨R1, μ1, env, st1, he1, q1.h, hp1⟩
    | false => rw [if_neg Bool.false_ne_true] at hp1 ⊢; exact hp1.now q1.h
theorem pwv_or (h : PTV X ec Wx a ta) (h2 : PWV X ec Wx (.BoolOp .Or (b :: rest) pos) tb) : PWV X ec Wx (.BoolOp .Or (a :: b :: rest) pos) (bOr ta tb) :=
  (pw_or h h2).imp fun σ H Q ⟨R, μ, env, st, he, hh, hp⟩ => tv_stepG he hh hp fun b st1 R1 μ1 H1 q1 he1 hp1 => by
    cases b with
    | false => rw [if_neg Bool.false_ne_true] at hp1 ⊢; exact ⟨R1, μ1, env, st1, he1, q1.h, hp1⟩
    | true => rw [if_pos rfl] at hp1 ⊢; exact hp1.now q1.h
theorem ptv_w (h : PWV X ec Wx e ta) : PTV X ec Wx e ta := h.pt
theorem ptv_not (h : PTV X ec Wx a ta) : PTV X ec Wx (.UnaryOp .Not a pos) (bNot ta) :=
  (pt_not h).imp fun σ H Q ⟨R, μ, env, st, he, hh, hp⟩ => tv_stepG he hh hp fun b st1 R1 μ1 H1 q1 he1 hp1 => hp1.now q1.h
/-- .. as values -/
def vAnd (f g : EvE) : EvE := fun env st => (f env st).bind fun a st1 => (asB a st1).bind fun b st2 => if b = true then g env st2 else .ok (.bl false) st2
def vOr (f g : EvE) : EvE := fun env st => (f env st).bind fun a st1 => (asB a st1).bind fun b st2 => if b = true then .ok (.bl true) st2 else g env st2
def vNot (f : EvE) : EvE := fun env st => (f env st).bind fun a st1 => (asB a st1).bind fun b st2 => .ok (.bl (!b)) st2
theorem asB_bind {K : PySem.W.Frag} {R : Hp} {μ : List Addr} {H : Hp} {E : XK} {α : Type} {G : α → Store → Hp → List Addr → Hp → Prop} {w : W} {v : V} {st : Store} {k : Bool → Store → Res α} (r : RW K R μ w v)
    (h : Post K ec R μ H E G ((asB w st).bind k)) : ∃ b, v = .bl b ∧ Post K ec R μ H E G (k b st) := by
  cases r with
  | bl b => exact ⟨b, rfl, h⟩
  | _ => exact h.elim
theorem pv_one {op : BoolOp} (h : PV X ec Wx a fa) : PV X ec Wx (.BoolOp op [a] pos) fa := pe_one h
theorem pv_and (h : PV X ec Wx a fa) (h2 : PV X ec Wx (.BoolOp .And (b :: rest) pos) fb) : PV X ec Wx (.BoolOp .And (a :: b :: rest) pos) (vAnd fa fb) :=
  (pe_and h h2).imp fun σ H Q ⟨R, μ, env, st, he, hh, hp⟩ => ev_step he hh hp fun w st1 R1 μ1 H1 v q1 he1 r hp1 => by
    obtain ⟨b, e, g⟩ := asB_bind r hp1
    refine ⟨b, e, ?_⟩
    cases b with
    | true => rw [if_pos rfl] at g ⊢; exact ⟨R1, μ1, env, st1, he1, q1.h, g⟩
    | false => rw [if_neg Bool.false_ne_true] at g ⊢; exact g.now q1.h _ (.bl false)
theorem pv_or (h : PV X ec Wx a fa) (h2 : PV X ec Wx (.BoolOp .Or (b :: rest) pos) fb) : PV X ec Wx (.BoolOp .Or (a :: b :: rest) pos) (vOr fa fb) :=
  (pe_or h h2).imp fun σ H Q ⟨R, μ, env, st, he, hh, hp⟩ => ev_step he hh hp fun w st1 R1 μ1 H1 v q1 he1 r hp1 => by
    obtain ⟨b, e, g⟩ := asB_bind r hp1
    refine ⟨b, e, ?_⟩
    cases b with
    | false => rw [if_neg Bool.false_ne_true] at g ⊢; exact ⟨R1, μ1, env, st1, he1, q1.h, g⟩
    | true => rw [if_pos rfl] at g ⊢; exact g.now q1.h _ (.bl true)
theorem pv_not (h : PV X ec Wx a fa) : PV X ec Wx (.UnaryOp .Not a pos) (vNot fa) :=
  (pe_not h).imp fun σ H Q ⟨R, μ, env, st, he, hh, hp⟩ => ev_step he hh hp fun w st1 R1 μ1 H1 v q1 he1 r hp1 => by
    obtain ⟨b, e, g⟩ := asB_bind r hp1
    exact ⟨b, e, g.now q1.h _ (.bl _)⟩
/-- a if t else b -/
def eIf (t : EvT) (f g : EvE) : EvE := fun env st => (t env st).bind fun b st1 => if b = true then f env st1 else g env st1
theorem pv_if (ht : PTV X ec Wx c ta) (ha : PV X ec Wx a fa) (hb : PV X ec Wx b fb) : PV X ec Wx (.IfExp c a b pos) (eIf ta fa fb) :=
  (pe_ifExp ht ha hb).imp fun σ H Q ⟨R, μ, env, st, he, hh, hp⟩ => tv_stepG he hh hp fun b st1 R1 μ1 H1 q1 he1 hp1 => by
    cases b with
    | true => rw [if_pos rfl] at hp1 ⊢; exact ⟨R1, μ1, env, st1, he1, q1.h, hp1⟩
    | false => rw [if_neg Bool.false_ne_true] at hp1 ⊢; exact ⟨R1, μ1, env, st1, he1, q1.h, hp1⟩
/-! ### chains -/
def eChain (k k' : W → W → Store → Res W) (f g h : EvE) : EvE := fun env st => (f env st).bind fun a st1 => (g env st1).bind fun b st2 => (k a b st2).bind fun z st3 => (asB z st3).bind fun t st4 =>
  if t = true then (h env st4).bind fun c st5 => k' b c st5 else .ok (.bl false) st4
theorem chain2 {K : PySem.W.Frag} {r r' : R2} {k k' : W → W → Store → Res W} (hs : Sem2 K r k) (hs' : Sem2 K r' k') (σ : L2.St) (H : Hp) (Q : VK) (h : tEv K ec Wx (eChain k k' fa fb fc) σ H Q) : tChain r r' (tEv K ec Wx fa) (tEv K ec Wx fb) (tEv K ec Wx fc) σ H Q := by
  obtain ⟨R, μ, env, st, he, hh, hp⟩ := h
  refine ev_step he hh hp fun a st1 R1 μ1 H1 x q1 he1 ra hp1 => ?_
  refine ev_step he1 q1.h hp1 fun b st2 R2 μ2 H2 y q2 he2 rb hp2 => ?_
  refine hs ec R2 μ2 st2 H2 _ _ a b x y q2.h (ra.grow q2.g) rb (hp2.seq.mono fun z st3 R3 μ3 H3 _ q3 v3 r3 => ?_)
  obtain ⟨t, e, g⟩ := asB_bind r3 q3.2
  refine ⟨t, e, ?_⟩
  cases t with
  | true =>
    rw [if_pos rfl] at g ⊢
    refine ev_step (he2.grow q3.1.g) q3.1.h g fun c st5 R5 μ5 H5 w q5 he5 rc hp5 => ?_
    exact hs' ec R5 μ5 st5 H5 _ Q b c y w q5.h ((rb.grow q3.1.g).grow q5.g) rc hp5
  | false =>
    rw [if_neg Bool.false_ne_true] at g ⊢
    exact g.now q3.1.h _ (.bl false)
theorem pv_chain {op op' : CmpOp} {r r' : R2} {k k' : W → W → Store → Res W} (ho : OpR X (compareOp op) r) (ho' : OpR X (compareOp op') r') (hs : Sem2 X.K r k) (hs' : Sem2 X.K r' k') (ha : PV X ec Wx a fa) (hb : PV X ec Wx b fb) (hc : PV X ec Wx c fc)
    (hm : lastMarks [op, op'] [b, c] = false := by with_unfolding_all rfl) : PV X ec Wx (.Compare a [op, op'] [b, c] pos) (eChain k k' fa fb fc) :=
  (pe_chain ho ho' ha hb hc hm).imp fun σ H Q h => chain2 hs hs' σ H Q h
theorem ptv_chain {op op' : CmpOp} {r r' : R2} {k k' : W → W → Store → Res W} (ho : OpR X (compareOp op) r) (ho' : OpR X (compareOp op') r') (hs : Sem2 X.K r k) (hs' : Sem2 X.K r' k') (ha : PV X ec Wx a fa) (hb : PV X ec Wx b fb) (hc : PV X ec Wx c fc)
    (hm : lastMarks [op, op'] [b, c] = false := by with_unfolding_all rfl) : PTV X ec Wx (.Compare a [op, op'] [b, c] pos) (eT (eChain k k' fa fb fc)) :=
  (pt_chain ho ho' ha hb hc hm).imp fun σ H Q ⟨R, μ, env, st, he, hh, hp⟩ => by
    refine chain2 hs hs' σ H _ ⟨R, μ, env, st, he, hh, hp.seq.mono fun w st1 R1 μ1 H1 _ q v r => ?_⟩
    obtain ⟨b, e, g⟩ := asB_post q.1.h r q.2
    exact ⟨b, e, g⟩
/-! ### lists of expressions, displays -/
def aNil : EvA := fun _ st => .ok [] st
def aCons (f : EvE) (g : EvA) : EvA := fun env st => (f env st).bind fun w st1 => (g env st1).bind fun ws st2 => .ok (w :: ws) st2
variable {fes : EvA}
theorem pav_nil : PAV X ec Wx [] aNil := pa_nil.imp fun σ H Q ⟨R, μ, env, st, he, hh, hp⟩ => hp.now hh [] .nil
theorem pav_cons (h : PV X ec Wx e fa) (h2 : PAV X ec Wx es fes) (hs : starEach (e :: es) X.env = (false, eval e X.env) :: starEach es X.env := by rfl) : PAV X ec Wx (e :: es) (aCons fa fes) :=
  (pa_cons h h2 hs).imp fun σ H Q ⟨R, μ, env, st, he, hh, hp⟩ => ev_stepG he hh hp fun w st1 R1 μ1 H1 v q1 he1 r hp1 => av_stepG he1 q1.h hp1 fun ws st2 R2 μ2 H2 vs q2 he2 rs hp2 => hp2.now q2.h _ (.cons (r.grow q2.g) rs)
def small (ws : List W) : Bool := decide (ws.length ≤ 1000000)
theorem small_le {K : PySem.W.Frag} {R : Hp} {μ : List Addr} {ws : List W} {vs : List V} (r : RWs K R μ ws vs) (h : small ws = true) : vs.length ≤ sizeLine := by
  have h' : ws.length ≤ 1000000 := of_decide_eq_true h
  rw [← r.length, sizeLine_eq]; omega
def eTup (f : EvA) : EvE := fun env st => (f env st).bind fun ws st1 => if small ws = true then .ok (.tup ws) st1 else .bad
def eLst (f : EvA) : EvE := fun env st => (f env st).bind fun ws st1 => if small ws = true then .ok (.lst ws) st1 else .bad
def eLstM (f : EvA) : EvE := fun env st => (f env st).bind fun ws st1 => if small ws = true then .ok (.obj st1.length) (st1 ++ [.L ws]) else .bad
theorem pv_tup {k : Nat} (h : PAV X ec Wx es fes) : PV X ec Wx (.Tuple es k pos) (eTup fes) :=
  (pe_tup (x1 := k) h).imp fun σ H Q ⟨R, μ, env, st, he, hh, hp⟩ => av_stepG he hh hp fun ws st1 R1 μ1 H1 vs q1 he1 r hp1 => by
    by_cases hz : small ws = true
    · rw [if_pos hz] at hp1
      refine ⟨small_le r hz, fun p hp0 => ?_⟩
      have A := q1.h.newR hp0 (.tup vs)
      exact hp1 _ _ _ A _ (.tup (.of upd_same) (r.grow A.g))
    · rw [if_neg hz] at hp1; exact hp1.elim
theorem pv_lst (h : PAV X ec Wx es fes) : PV X ec Wx (.List es pos) (eLst fes) :=
  (pe_lst h).imp fun σ H Q ⟨R, μ, env, st, he, hh, hp⟩ => av_stepG he hh hp fun ws st1 R1 μ1 H1 vs q1 he1 r hp1 => by
    by_cases hz : small ws = true
    · rw [if_pos hz] at hp1
      refine ⟨small_le r hz, fun p hp0 => ?_⟩
      have A := q1.h.newR hp0 (.lst vs)
      exact hp1 _ _ _ A _ (.lst upd_same (r.grow A.g))
    · rw [if_neg hz] at hp1; exact hp1.elim
/-- a list that will be changed -/
theorem pv_lstM (h : PAV X ec Wx es fes) : PV X ec Wx (.List es pos) (eLstM fes) :=
  (pe_lst h).imp fun σ H Q ⟨R, μ, env, st, he, hh, hp⟩ => av_stepG he hh hp fun ws st1 R1 μ1 H1 vs q1 he1 r hp1 => by
    by_cases hz : small ws = true
    · rw [if_pos hz] at hp1
      refine ⟨small_le r hz, fun p hp0 => ?_⟩
      have A := q1.h.newM (m := .L ws) hp0 ⟨vs, rfl, r⟩
      refine hp1 _ _ _ A _ (.obj ?_)
      rw [← q1.h.len, List.getElem?_append_right (Nat.le_refl _)]
      simp
    · rw [if_neg hz] at hp1; exact hp1.elim
end
end Vl
end
section
set_option Elab.async false
set_option linter.all false
set_option maxRecDepth 100000
set_option maxHeartbeats 1000000
/-! V2: statements, loops. -/
namespace Vl
open PySem PySem.Spec PyProof.Rows L2
def GS (K : PySem.W.Frag) (D : Ends) : Out → Store → Hp → List Addr → Hp → Prop
  | .nx env', _, R', μ', H' => ∀ σ', EnvR K R' μ' env' σ' → D.nx σ' H'
  | .rt w, _, R', μ', H' => ∀ v, RW K R' μ' w v → D.rt v H'
  | .bk env', _, R', μ', H' => ∀ σ', EnvR K R' μ' env' σ' → D.bk σ' H'
  | .ct env', _, R', μ', H' => ∀ σ', EnvR K R' μ' env' σ' → D.ct σ' H'
/-- the wish of an error does not hang on the slots -/
def tSv (K : PySem.W.Frag) (ec : Str → Addr) (E : XK) (f : EvS) : TS := fun D σ H => ∃ R μ env st, EnvR K R μ env σ ∧ HRel K R μ st H ∧ Post K ec R μ H E (GS K D) (f env st)
abbrev wE (E : XK) : WX := fun c d _ H => E c d H
abbrev PVS (X : Cx) (ec : Str → Addr) (E : XK) (s : Stmt) (f : EvS) : Prop := PS X s (tSv X.K ec E f)
abbrev PVSs (X : Cx) (ec : Str → Addr) (E : XK) (s : List Stmt) (f : EvS) : Prop := PSs X s (tSv X.K ec E f)
def sNil : EvS := fun env st => .ok (.nx env) st
def sCons (f g : EvS) : EvS := fun env st => (f env st).bind fun o st1 => match o with
  | .nx env1 => g env1 st1
  | o => .ok o st1
section
variable {X : Cx} {ec : Str → Addr} {E : XK} {pos : Pos} {a b c e : Expr} {es : List Expr} {fa fb fc : EvE} {s : Stmt} {ss ss' : List Stmt} {f g : EvS}
theorem pvs_nil : PVSs X ec E [] sNil := pss_nil.imp fun D σ H ⟨R, μ, env, st, he, hh, hp⟩ => hp.now hh σ he
theorem seq_step {K : PySem.W.Frag} {D : Ends} {σ : L2.St} {H : Hp} (h : tSv K ec E (sCons f g) D σ H) : tSeq (tSv K ec E f) (tSv K ec E g) D σ H := by
  obtain ⟨R, μ, env, st, he, hh, hp⟩ := h
  refine ⟨R, μ, env, st, he, hh, hp.seq.mono fun o st1 R1 μ1 H1 _ q => ?_⟩
  obtain ⟨q1, q2⟩ := q
  cases o with
  | nx env1 => exact fun σ1 h1 => ⟨R1, μ1, env1, st1, h1, q1.h, q2⟩
  | rt w => exact q2.now q1.h
  | bk env1 => exact q2.now q1.h
  | ct env1 => exact q2.now q1.h
theorem pvs_cons (h1 : PVS X ec E s f) (h2 : PVSs X ec E ss g) : PVSs X ec E (s :: ss) (sCons f g) := (pss_cons h1 h2).imp fun D σ H h => seq_step h
theorem pvs_one (h : PVS X ec E s f) : PVSs X ec E [s] f := pss_one h
/-- x = e -/
def sSet (i : Nat) (f : EvE) : EvS := fun env st => (f env st).bind fun w st1 => .ok (.nx (env.set i (some w))) st1
theorem pv_set {i : Nat} {x : Str} {pos' : Pos} (hN : X.N.Nodup) (hi : X.N[i]? = some x) (hx : Loc X.env.scope x) (he : PV X ec (wE E) e fa) (hs : swapsWith e (some (.Name x pos')) pos.line X.env = pure false := by rfl)
    (hf : X.fn x = true ∨ X.env.scope.names.lookup x = some .local := by first | exact .inl rfl | exact .inr rfl | assumption) : PVS X ec E (.Assign [.Name x pos'] e pos) (sSet i fa) :=
  (ps_set hN hi hx he hs hf).imp fun D σ H ⟨R, μ, env, st, he, hh, hp⟩ => ev_stepG he hh hp fun w st1 R1 μ1 H1 v q1 he1 r hp1 => hp1.now q1.h _ (he1.set r i)
def sExpr (f : EvE) : EvS := fun env st => (f env st).bind fun _ st1 => .ok (.nx env) st1
theorem pv_expr (he : PV X ec (wE E) e fa) (hs : swapsWith e none pos.line X.env = pure false := by rfl) : PVS X ec E (.Expr e pos) (sExpr fa) :=
  (ps_expr he hs).imp fun D σ H ⟨R, μ, env, st, he, hh, hp⟩ => ev_stepG he hh hp fun w st1 R1 μ1 H1 v q1 he1 r hp1 => hp1.now q1.h σ he1
def sRet (f : EvE) : EvS := fun env st => (f env st).bind fun w st1 => .ok (.rt w) st1
theorem pv_ret (he : PV X ec (wE E) e fa) : PVS X ec E (.Return (some e) pos) (sRet fa) :=
  (ps_ret he).imp fun D σ H ⟨R, μ, env, st, he, hh, hp⟩ => ev_stepG he hh hp fun w st1 R1 μ1 H1 v q1 he1 r hp1 => hp1.now q1.h v r
def sIf (t : EvT) (f g : EvS) : EvS := fun env st => (t env st).bind fun b st1 => if b = true then f env st1 else g env st1
theorem pv_ifs {ta : EvT} (hc : PTV X ec (wE E) c ta) (h1 : PVSs X ec E ss f) (h2 : PVSs X ec E ss' g) : PVS X ec E (.If c ss ss' pos) (sIf ta f g) :=
  (ps_if hc h1 h2).imp fun D σ H ⟨R, μ, env, st, he, hh, hp⟩ => tv_stepG he hh hp fun b st1 R1 μ1 H1 q1 he1 hp1 => by
    cases b with
    | true => rw [if_pos rfl] at hp1 ⊢; exact ⟨R1, μ1, env, st1, he1, q1.h, hp1⟩
    | false => rw [if_neg Bool.false_ne_true] at hp1 ⊢; exact ⟨R1, μ1, env, st1, he1, q1.h, hp1⟩
theorem pv_pass : PVS X ec E (.Pass pos) sNil := ps_pass.imp fun D σ H ⟨R, μ, env, st, he, hh, hp⟩ => hp.now hh σ he
def sCont : EvS := fun env st => .ok (.ct env) st
theorem pv_cont : PVS X ec E (.Continue pos) sCont := ps_continue.imp fun D σ H ⟨R, μ, env, st, he, hh, hp⟩ => hp.now hh σ he
/-- while, by so many turns at most -/
def sWhile : Nat → EvT → EvS → EvS
  | 0, _, _ => fun _ _ => .bad
  | n + 1, t, f => fun env st => (t env st).bind fun b st1 => if b = true then (f env st1).bind fun o st2 => (match o with
      | .nx env2 => sWhile n t f env2 st2
      | .ct env2 => sWhile n t f env2 st2
      | .bk env2 => .ok (.nx env2) st2
      | .rt w => .ok (.rt w) st2) else .ok (.nx env) st1
theorem while_step {K : PySem.W.Frag} {t : EvT} {D : Ends} {n : Nat} {σ : L2.St} {H : Hp} (h : tSv K ec E (sWhile n t f) D σ H) : tWhile (tTv K ec (wE E) t) (tSv K ec E f) D σ H := by
  refine ⟨fun m σ H => tSv K ec E (sWhile m t f) D σ H, ⟨n, h⟩, ?_⟩
  rintro m σ H ⟨R, μ, env, st, he, hh, hp⟩
  cases m with
  | zero => exact hp.elim
  | succ m =>
    refine tv_stepG he hh hp fun b st1 R1 μ1 H1 q1 he1 hp1 => ?_
    cases b with
    | false =>
      rw [if_neg Bool.false_ne_true] at hp1 ⊢
      exact hp1.now q1.h σ he1
    | true =>
      rw [if_pos rfl] at hp1 ⊢
      refine ⟨fun σ' H' => tSv K ec E (sWhile m t f) D σ' H', fun σ' H' z => ⟨m, Nat.lt_succ_self m, z⟩, R1, μ1, env, st1, he1, q1.h, hp1.seq.mono fun o st2 R2 μ2 H2 _ q => ?_⟩
      obtain ⟨q2, q3⟩ := q
      cases o with
      | nx env2 => exact fun σ2 h2 => ⟨R2, μ2, env2, st2, h2, q2.h, q3⟩
      | ct env2 => exact fun σ2 h2 => ⟨R2, μ2, env2, st2, h2, q2.h, q3⟩
      | bk env2 => exact q3.now q2.h
      | rt w => exact q3.now q2.h
theorem pv_while {t : EvT} (n : Nat) (hp : PassesOwn (model X.prog X.w) X.A X.env X.xe) (hc : PTV X ec (wE E) c t) (hb : PVSs X ec E ss f) : PVS X ec E (.While c ss [] pos) (sWhile n t f) :=
  (ps_while hp hc hb).imp fun D σ H h => while_step h

/-! ### what is walked -/
/-- J yields just these, whatever comes to be meanwhile -/
structure JOk (K : PySem.W.Frag) (J : It) (ws : List W) (R : Hp) (μ : List Addr) : Prop where
  go : ∀ (R' : Hp) (μ' : List Addr) (st : Store) (H : Hp) (i : Nat) (w : W), Grow R μ R' μ' → HRel K R' μ' st H → ws[i]? = some w → J.go i H
  yld : ∀ (R' : Hp) (μ' : List Addr) (st : Store) (H : Hp) (i : Nat) (w : W) (x : V) (H' : Hp), Grow R μ R' μ' → HRel K R' μ' st H → ws[i]? = some w → J.yld i H x H' → ∃ R2, After K R' μ' H R2 μ' st H' ∧ RW K R2 μ' w x
  stop : ∀ (R' : Hp) (μ' : List Addr) (st : Store) (H : Hp), Grow R μ R' μ' → HRel K R' μ' st H → J.stop ws.length H
theorem JOk.grow {K : PySem.W.Frag} {J : It} {ws : List W} {R R' : Hp} {μ μ' : List Addr} (h : JOk K J ws R μ) (g : Grow R μ R' μ') : JOk K J ws R' μ' :=
  ⟨fun R2 μ2 st H i w g2 => h.go R2 μ2 st H i w (g.trans g2), fun R2 μ2 st H i w x H' g2 => h.yld R2 μ2 st H i w x H' (g.trans g2), fun R2 μ2 st H g2 => h.stop R2 μ2 st H (g.trans g2)⟩
abbrev EvI := EvA
def tIv (K : PySem.W.Frag) (ec : Str → Addr) (Wx : WX) (f : EvI) : TI := fun σ H Q => ∃ R μ env st, EnvR K R μ env σ ∧ HRel K R μ st H ∧ Post K ec R μ H (fun c d H' => Wx c d σ H') (fun ws _ R' μ' H' => ∀ J, JOk K J ws R' μ' → Q J H') (f env st)
abbrev PIV (X : Cx) (ec : Str → Addr) (Wx : WX) (tg it : Expr) (f : EvI) : Prop := PI X tg it (tIv X.K ec Wx f)
theorem PI_imp {X : Cx} {tg e : Expr} {t t' : TI} (h : PI X tg e t) (q : ∀ σ H R, t' σ H R → t σ H R) : PI X tg e t' := ⟨fun pins s σ H R I z => h.run pins s σ H R I (q _ _ _ z)⟩
theorem jok_list {K : PySem.W.Frag} {a : Addr} {R : Hp} {μ : List Addr} {ws : List W} {vs : List V} (h : SqL K R a vs) (hi : ∀ (R' : Hp) (μ' : List Addr) (st : Store) (H : Hp), Grow R μ R' μ' → HRel K R' μ' st H → SqL K H a vs) (r : RWs K R μ ws vs) : JOk K (Itl K a) ws R μ where
  go := fun R' μ' st H i w g hh e => let ⟨v, q, _⟩ := r.get e; ⟨vs, v, hi R' μ' st H g hh, q⟩
  yld := fun R' μ' st H i w x H' g hh e y => by
    obtain ⟨e', y⟩ := y
    subst e'
    have q := y vs (hi R' μ' st _ g hh)
    obtain ⟨v, q', rv⟩ := r.get e
    rw [q'] at q
    cases q
    exact ⟨R', .refl hh, rv.grow g⟩
  stop := fun R' μ' st H g hh => ⟨vs, hi R' μ' st H g hh, by rw [r.length]; exact Nat.le_refl _⟩
theorem jok_tup {K : PySem.W.Frag} {a : Addr} {R : Hp} {μ : List Addr} {ws : List W} {vs : List V} (h : SqT K R a vs) (r : RWs K R μ ws vs) : JOk K (Itt K a) ws R μ := by
  have hi : ∀ (R' : Hp) (μ' : List Addr) (st : Store) (H : Hp), Grow R μ R' μ' → HRel K R' μ' st H → SqT K H a vs := fun R' μ' st H g hh => sqT_mono hh.sub (sqT_mono g.r h)
  exact {
    go := fun R' μ' st H i w g hh e => let ⟨v, q, _⟩ := r.get e; ⟨vs, v, hi R' μ' st H g hh, q⟩
    yld := fun R' μ' st H i w x H' g hh e y => by
      obtain ⟨e', y⟩ := y
      subst e'
      have q := y vs (hi R' μ' st _ g hh)
      obtain ⟨v, q', rv⟩ := r.get e
      rw [q'] at q
      cases q
      exact ⟨R', .refl hh, rv.grow g⟩
    stop := fun R' μ' st H g hh => ⟨vs, hi R' μ' st H g hh, by rw [r.length]; exact Nat.le_refl _⟩ }
def asL : W → Store → Res (List W)
  | .lst ws, st => .ok ws st
  | .scr ws, st => .ok ws st
  | _, _ => .bad
def asT : W → Store → Res (List W)
  | .tup ws, st => .ok ws st
  | _, _ => .bad
def iL (f : EvE) : EvI := fun env st => (f env st).bind asL
def iT (f : EvE) : EvI := fun env st => (f env st).bind asT
variable {Wx : WX} {tg : Expr}
theorem piv_list (h : PV X ec Wx e fa) : PIV X ec Wx tg e (iL fa) :=
  PI_imp (pi_list h) fun σ H Q ⟨R, μ, env, st, he, hh, hp⟩ => ev_stepG he hh hp fun w st1 R1 μ1 H1 v q1 he1 r hp1 => by
    cases r with
    | @lst a vs ws h rs =>
      have hi : ∀ (R' : Hp) (μ' : List Addr) (st : Store) (H : Hp), Grow R1 μ1 R' μ' → HRel X.K R' μ' st H → SqL X.K H a vs := fun R' μ' st H g hh => .of (hh.sub _ _ (g.r _ _ h))
      exact ⟨a, rfl, ⟨vs, hi _ _ _ _ .refl q1.h⟩, hp1.now q1.h _ (jok_list (.of h) hi rs)⟩
    | @scr a vs ws h rs =>
      have hi : ∀ (R' : Hp) (μ' : List Addr) (st : Store) (H : Hp), Grow R1 μ1 R' μ' → HRel X.K R' μ' st H → SqL X.K H a vs := fun R' μ' st H g hh => sqL_mono hh.sub (sqL_mono g.r h)
      exact ⟨a, rfl, ⟨vs, hi _ _ _ _ .refl q1.h⟩, hp1.now q1.h _ (jok_list h hi rs)⟩
    | _ => exact hp1.elim
theorem piv_tup (h : PV X ec Wx e fa) : PIV X ec Wx tg e (iT fa) :=
  PI_imp (pi_tup h) fun σ H Q ⟨R, μ, env, st, he, hh, hp⟩ => ev_stepG he hh hp fun w st1 R1 μ1 H1 v q1 he1 r hp1 => by
    cases r with
    | @tup a vs ws h rs => exact ⟨a, rfl, ⟨vs, sqT_mono q1.h.sub h⟩, hp1.now q1.h _ (jok_tup h rs)⟩
    | _ => exact hp1.elim
def intsW (n : Nat) : List W := (List.range n).map fun k => .int (k : Nat)
theorem intsW_get {n i : Nat} {w : W} (h : (intsW n)[i]? = some w) : i < n ∧ w = .int (i : Nat) := by
  unfold intsW at h
  rw [List.getElem?_map] at h
  cases e : (List.range n)[i]? with
  | none => rw [e] at h; cases h
  | some k =>
    rw [e] at h
    obtain ⟨h1, h2⟩ := List.getElem?_eq_some_iff.mp e
    rw [List.getElem_range] at h2
    subst h2
    exact ⟨by simpa using h1, (Option.some.inj h).symm⟩
theorem intsW_len (n : Nat) : (intsW n).length = n := by unfold intsW; simp
/-- range(n) -/
def iRange (f : EvA) : EvI := fun env st => (f env st).bind fun ws st1 => match ws with
  | [.int n] => if -1000000 ≤ n ∧ n ≤ 1000000 then .ok (intsW n.toNat) st1 else .bad
  | _ => .bad
theorem piv_range {fes : EvA} {a : Expr} {p pos : Pos} (hg : Gl X "range") (hm : X.mg "range" = none) (h : PAV X ec Wx [a] fes) (hs : starEach [a] X.env = [(false, eval a X.env)] := by rfl) : PIV X ec Wx tg (.Call (.Name "range" p) [a] [] pos) (iRange fes) :=
  PI_imp (pi_range1 hg hm h hs) fun σ H Q ⟨R, μ, env, st, he, hh, hp⟩ => av_stepG he hh hp fun ws st1 R1 μ1 H1 vs q1 he1 r hp1 => by
    cases r with
    | nil => exact hp1.elim
    | cons r1 rr =>
      cases rr with
      | cons _ _ => cases r1 <;> exact hp1.elim
      | nil =>
        cases r1 with
        | int n =>
          have hp2 : Post X.K ec R1 μ1 H1 (fun c d H' => Wx c d σ H') (fun ws _ R' μ' H' => ∀ J, JOk X.K J ws R' μ' → Q J H') (if -1000000 ≤ n ∧ n ≤ 1000000 then .ok (intsW n.toNat) st1 else .bad) := hp1
          by_cases hz : -1000000 ≤ n ∧ n ≤ 1000000
          · rw [if_pos hz] at hp2
            refine ⟨n, rfl, by omega, by omega, hp2.now q1.h _ ?_⟩
            exact {
              go := fun R' μ' st H i w g hh e => (intsW_get e).1
              yld := fun R' μ' st H i w x H' g hh e y => by
                obtain ⟨e1, e2⟩ := y
                subst e1 e2
                rw [(intsW_get e).2]
                refine ⟨R', .refl hh, ?_⟩
                have : (0 : Int) + ((i : Nat) : Int) = ((i : Nat) : Int) := by omega
                rw [this]; exact .int _
              stop := fun R' μ' st H g hh => by rw [intsW_len]; exact Nat.le_refl _ }
          · rw [if_neg hz] at hp2; exact hp2.elim
        | _ => exact hp1.elim
/-! ### targets -/
abbrev EvG := W → Env' → Store → Res Env'
def tGv (K : PySem.W.Frag) (ec : Str → Addr) (E : XK) (f : EvG) : TG := fun v σ H Q => ∃ R μ env st w, EnvR K R μ env σ ∧ HRel K R μ st H ∧ RW K R μ w v ∧ Post K ec R μ H E (fun env' _ R' μ' H' => ∀ σ', EnvR K R' μ' env' σ' → Q σ' H') (f w env st)
theorem PG_imp {X : Cx} {e : Expr} {t t' : TG} (h : PG X e t) (q : ∀ v σ H Q, t' v σ H Q → t v σ H Q) : PG X e t' := ⟨fun pins s σ H v u Q I r z => h.run pins s σ H v u Q I r (q _ _ _ _ z)⟩
theorem PGs_imp {X : Cx} {e : List Expr} {t t' : TGs} (h : PGs X e t) (q : ∀ v σ H Q, t' v σ H Q → t v σ H Q) : PGs X e t' := ⟨fun pins s σ H v u Q I r z => h.run pins s σ H v u Q I r (q _ _ _ _ z)⟩
abbrev PGV (X : Cx) (ec : Str → Addr) (E : XK) (e : Expr) (f : EvG) : Prop := PG X e (tGv X.K ec E f)
abbrev EvGs := List W → Env' → Store → Res Env'
def tGsv (K : PySem.W.Frag) (ec : Str → Addr) (E : XK) (f : EvGs) : TGs := fun vs σ H Q => ∃ R μ env st ws, EnvR K R μ env σ ∧ HRel K R μ st H ∧ RWs K R μ ws vs ∧ Post K ec R μ H E (fun env' _ R' μ' H' => ∀ σ', EnvR K R' μ' env' σ' → Q σ' H') (f ws env st)
abbrev PGVs (X : Cx) (ec : Str → Addr) (E : XK) (e : List Expr) (f : EvGs) : Prop := PGs X e (tGsv X.K ec E f)
def gN (i : Nat) : EvG := fun w env st => .ok (env.set i (some w)) st
theorem pgv_name {i : Nat} {x : Str} (hN : X.N.Nodup) (hi : X.N[i]? = some x) (hx : Loc X.env.scope x) (hf : X.fn x = true ∨ X.env.scope.names.lookup x = some .local := by first | exact .inl rfl | exact .inr rfl | assumption) : PGV X ec E (.Name x pos) (gN i) :=
  PG_imp (pg_name hN hi hx hf) fun v σ H Q ⟨R, μ, env, st, w, he, hh, hr, hp⟩ => hp.now hh _ (he.set hr i)
def gsNil : EvGs := fun ws env st => match ws with
  | [] => .ok env st
  | _ => .bad
def gsCons (f : EvG) (g : EvGs) : EvGs := fun ws env st => match ws with
  | w :: ws => (f w env st).bind fun env1 st1 => g ws env1 st1
  | [] => .bad
theorem pgvs_nil : PGVs X ec E [] gsNil := PGs_imp pgs_nil fun vs σ H Q ⟨R, μ, env, st, ws, he, hh, hr, hp⟩ => by
  cases hr with
  | nil => exact ⟨rfl, hp.now hh _ he⟩
  | cons _ _ => exact hp.elim
theorem pgvs_cons {f : EvG} {g : EvGs} (h1 : PGV X ec E e f) (h2 : PGVs X ec E es g) (hs : (assignEach (e :: es) X.env).map (·.2) = assign e X.env :: (assignEach es X.env).map (·.2) := by rfl) : PGVs X ec E (e :: es) (gsCons f g) :=
  PGs_imp (pgs_cons h1 h2 hs) fun vs σ H Q ⟨R, μ, env, st, ws, he, hh, hr, hp⟩ => by
    cases hr with
    | nil => exact hp.elim
    | @cons w v ws vs r rs =>
      refine ⟨v, vs, rfl, R, μ, env, st, w, he, hh, r, hp.seq.mono fun env1 st1 R1 μ1 H1 _ q σ1 h1 => ?_⟩
      exact ⟨R1, μ1, env1, st1, ws, h1, q.1.h, rs.grow q.1.g, q.2⟩
/-- (a, b, ..) = a tuple of so many -/
def gT (n : Nat) (g : EvGs) : EvG := fun w env st => match w with
  | .tup ws => if ws.length = n then g ws env st else .bad
  | _ => .bad
theorem pgv_tup {k n : Nat} {g : EvGs} (hc : X.calm = true) (h : PGVs X ec E es g) (hn : (assignEach es X.env).length = n := by rfl) (hst : (assignEach es X.env).findIdx? (·.1) = none := by rfl) : PGV X ec E (.Tuple es k pos) (gT n g) :=
  PG_imp (pg_tup (k := k) hc h hn hst) fun v σ H Q ⟨R, μ, env, st, w, he, hh, hr, hp⟩ => by
    cases hr with
    | @tup a vs ws hq rs =>
      by_cases hz : ws.length = n
      · have hp' : Post X.K ec R μ H E _ (if ws.length = n then g ws env st else .bad) := hp
        rw [if_pos hz] at hp'
        exact ⟨a, vs, rfl, sqT_mono hh.sub hq, by rw [← rs.length]; exact hz, R, μ, env, st, ws, he, hh, rs, hp'⟩
      · have hp' : Post X.K ec R μ H E _ (if ws.length = n then g ws env st else .bad) := hp
        rw [if_neg hz] at hp'; exact hp'.elim
    | _ => exact hp.elim
/-- target = e -/
def sAsg (f : EvE) (g : EvG) : EvS := fun env st => (f env st).bind fun w st1 => (g w env st1).bind fun env1 st2 => .ok (.nx env1) st2
theorem pv_asg {g : EvG} (he : PV X ec (wE E) e fa) (hg : PGV X ec E tg g) (hs : swapsWithSole [tg] e pos.line X.env = pure false := by rfl) (hw : swappedStores [tg] e X.env = pure none := by rfl)
    (h1 : (assignEach [tg] X.env).map (·.2) = [assign tg X.env] := by rfl) : PVS X ec E (.Assign [tg] e pos) (sAsg fa g) :=
  (ps_asg he hg hs hw h1).imp fun D σ H ⟨R, μ, env, st, he, hh, hp⟩ => ev_stepG he hh hp fun w st1 R1 μ1 H1 v q1 he1 r hp1 =>
    ⟨R1, μ1, env, st1, w, he1, q1.h, r, hp1.seq.mono fun env1 st2 R2 μ2 H2 _ q σ2 h2 => q.2.now q.1.h σ2 h2⟩
/-- a, b = x, y -/
def sPar (i j : Nat) (f : EvA) : EvS := fun env st => (f env st).bind fun ws st1 => match ws with
  | [w, z] => .ok (.nx ((env.set i (some w)).set j (some z))) st1
  | _ => .bad
theorem pv_par {i j : Nat} {x y : Str} {fes : EvA} {px py pt : Pos} {kt k2 : Nat} {pt2 : Pos} (hc : X.calm = true) (hN : X.N.Nodup) (hi : X.N[i]? = some x) (hj : X.N[j]? = some y) (hij : i ≠ j)
    (hx : X.env.scope.names.lookup x = some .local) (hy : X.env.scope.names.lookup y = some .local) (ha : PAV X ec (wE E) [a, b] fes)
    (hw : swappedStores [.Tuple [.Name x px, .Name y py] kt pt] (.Tuple [a, b] k2 pt2) X.env = pure (some [x, y]))
    (hs : swapsWithSole [.Tuple [.Name x px, .Name y py] kt pt] (.Tuple [a, b] k2 pt2) pos.line X.env = pure false := by rfl) : PVS X ec E (.Assign [.Tuple [.Name x px, .Name y py] kt pt] (.Tuple [a, b] k2 pt2) pos) (sPar i j fes) :=
  (ps_par hc hN hi hj hij hx hy ha hw hs).imp fun D σ H ⟨R, μ, env, st, he, hh, hp⟩ => av_stepG he hh hp fun ws st1 R1 μ1 H1 vs q1 he1 r hp1 => by
    match ws, r, hp1 with
    | [w, z], .cons r1 (.cons r2 .nil), hp1 => exact ⟨_, _, rfl, hp1.now q1.h _ ((he1.set r1 i).set r2 j)⟩
    | [], _, hp1 => exact hp1.elim
    | [_], _, hp1 => exact hp1.elim
    | _ :: _ :: _ :: _, _, hp1 => exact hp1.elim
/-! ### for -/
def sLoop (g : EvG) (f : EvS) : List W → EvS
  | [] => fun env st => .ok (.nx env) st
  | w :: ws => fun env st => (g w env st).bind fun env1 st1 => (f env1 st1).bind fun o st2 => match o with
      | .nx env2 => sLoop g f ws env2 st2
      | .ct env2 => sLoop g f ws env2 st2
      | .bk env2 => .ok (.nx env2) st2
      | .rt w => .ok (.rt w) st2
def sFor (it : EvI) (g : EvG) (f : EvS) : EvS := fun env st => (it env st).bind fun ws st1 => sLoop g f ws env st1
theorem drop_cons {α : Type} {ws : List α} {i : Nat} {w : α} (h : ws[i]? = some w) : ws.drop i = w :: ws.drop (i + 1) := by
  obtain ⟨h1, h2⟩ := List.getElem?_eq_some_iff.mp h
  rw [List.drop_eq_getElem_cons h1, h2]
theorem for_step {K : PySem.W.Frag} {it : EvI} {g : EvG} {D : Ends} {σ : L2.St} {H : Hp} (h : tSv K ec E (sFor it g f) D σ H) : tFor (tIv K ec (wE E) it) (tGv K ec E g) (tSv K ec E f) D σ H := by
  obtain ⟨R, μ, env, st, he, hh, hp⟩ := h
  refine ⟨R, μ, env, st, he, hh, hp.seq.mono fun ws st1 R1 μ1 H1 _ q J jok => ?_⟩
  refine ⟨fun i m σ' H' => m = ws.length - i ∧ i ≤ ws.length ∧ ∃ R' μ' env' st', EnvR K R' μ' env' σ' ∧ HRel K R' μ' st' H' ∧ JOk K J ws R' μ' ∧ Post K ec R' μ' H' E (GS K D) (sLoop g f (ws.drop i) env' st'), ⟨ws.length, by simp, Nat.zero_le _, R1, μ1, env, st1, he.grow q.1.g, q.1.h, jok, q.2⟩, ?_⟩
  rintro i m σ2 H2 ⟨rfl, hi, R2, μ2, env2, st2, he2, hh2, jok2, hp2⟩
  by_cases hlt : i < ws.length
  · have ew : ws[i]? = some ws[i] := List.getElem?_eq_getElem hlt
    rw [drop_cons ew] at hp2
    refine .inr ⟨jok2.go R2 μ2 st2 H2 i _ .refl hh2 ew, fun σ' H' => i + 1 ≤ ws.length ∧ ∃ R' μ' env' st', EnvR K R' μ' env' σ' ∧ HRel K R' μ' st' H' ∧ JOk K J ws R' μ' ∧ Post K ec R' μ' H' E (GS K D) (sLoop g f (ws.drop (i + 1)) env' st'),
      fun σ' H' z => ⟨ws.length - (i + 1), by omega, rfl, z.1, z.2⟩, fun x H3 y => ?_⟩
    obtain ⟨R3, q3, r3⟩ := jok2.yld R2 μ2 st2 H2 i _ x H3 .refl hh2 ew y
    -- the rest of the loop, told from the grown world
    have hp3 : Post K ec R3 μ2 H3 E (GS K D) (sLoop g f (ws[i] :: ws.drop (i + 1)) env2 st2) := by
      have gen : ∀ (r : Res Out), Post K ec R2 μ2 H2 E (GS K D) r → Post K ec R3 μ2 H3 E (GS K D) r := by
        intro r hr
        cases r with
        | ok a st' => exact fun R' μ' H' qq => hr R' μ' H' (q3.trans qq)
        | exc c fs st' => exact fun R' μ' H' d vs qq e2 r2 => hr R' μ' H' d vs (q3.trans qq) e2 r2
        | bad => exact hr
      exact gen _ hp2
    refine ⟨R3, μ2, env2, st2, ws[i], he2.grow q3.g, q3.h, r3, hp3.seq.mono fun env4 st4 R4 μ4 H4 _ q4 σ4 h4 => ?_⟩
    refine ⟨R4, μ4, env4, st4, h4, q4.1.h, q4.2.seq.mono fun o st5 R5 μ5 H5 _ q5 => ?_⟩
    have g5 := (q3.g.trans q4.1.g).trans q5.1.g
    cases o with
    | nx env5 => exact fun σ5 h5 => ⟨hlt, R5, μ5, env5, st5, h5, q5.1.h, jok2.grow g5, q5.2⟩
    | ct env5 => exact fun σ5 h5 => ⟨hlt, R5, μ5, env5, st5, h5, q5.1.h, jok2.grow g5, q5.2⟩
    | bk env5 => exact q5.2.now q5.1.h
    | rt w => exact q5.2.now q5.1.h
  · have e : i = ws.length := by omega
    subst e
    rw [List.drop_length] at hp2
    exact .inl ⟨jok2.stop R2 μ2 st2 H2 .refl hh2, hp2.now hh2 σ2 he2⟩
theorem pv_for {it : EvI} {g : EvG} {i : Expr} (hp : PassesOwn (model X.prog X.w) X.A X.env X.xe) (hc : X.calm = true) (hi : PIV X ec (wE E) tg i it) (hg : PGV X ec E tg g) (hb : PVSs X ec E ss f)
    (hs : ∀ x, foldedSetIterable i X.env x = pure x := by intro _; rfl) : PVS X ec E (.For tg i ss [] pos) (sFor it g f) :=
  (ps_for hp hc hi hg hb hs).imp fun D σ H h => for_step h
end
end Vl
end
section
set_option Elab.async false
set_option linter.all false
set_option maxRecDepth 100000
set_option maxHeartbeats 1000000
/-! V3: list comprehensions; defs and their calls. -/
namespace Vl
open PySem PySem.Spec PyProof.Rows L2
section
variable {K : PySem.W.Frag} {ec : Str → Addr} {R R' R0 : Hp} {μ μ' μ0 : List Addr} {H H' H0 : Hp} {E : XK} {α β : Type} {st st' : Store}
/-- told from a later state -/
theorem Post.from_ {G : α → Store → Hp → List Addr → Hp → Prop} {r : Res α} (h : Post K ec R0 μ0 H0 E G r) (s : Since R0 μ0 H0 R μ H) : Post K ec R μ H E (fun a st' R' μ' H' => After K R0 μ0 H0 R' μ' st' H' ∧ G a st' R' μ' H') r := by
  cases r with
  | ok a st' => exact fun R' μ' H' q => ⟨s.then_ q, h R' μ' H' (s.then_ q)⟩
  | exc c fs st' => exact fun R' μ' H' d vs q e r => h R' μ' H' d vs (s.then_ q) e r
  | bad => exact h
/-- the base stays where it is -/
theorem Post.seq0 {G : β → Store → Hp → List Addr → Hp → Prop} {r : Res α} {k : α → Store → Res β} (h : Post K ec R μ H E G (r.bind k)) :
    Post K ec R μ H E (fun a st' R' μ' H' => After K R μ H R' μ' st' H' ∧ Post K ec R μ H E G (k a st')) r := by
  cases r with
  | ok a st' => exact fun R' μ' H' q => ⟨q, h⟩
  | exc c fs st' => exact h
  | bad => exact h
/-- a thing beside is changed -/
theorem HRel.other (h : HRel K R μ st H) {p : Addr} (h1 : R p = none) (h2 : p ∉ μ) (o : HO) (ht : ∀ P q, LamX.TabS H P q → LamX.TabS (upd H p o) P q) : HRel K R μ st (upd H p o) where
  sub := fun a u e => by rw [upd_ne (fun z => by rw [z, h1] at e; cases e)]; exact h.sub a u e
  dis := h.dis
  nd := h.nd
  len := h.len
  at_ := fun i a m e1 e2 => by
    have hne : a ≠ p := fun z => h2 (by rw [← z]; exact List.mem_of_getElem? e1)
    rw [upd_ne hne]; exact h.at_ i a m e1 e2
  ntb := h.ntb
  tbs := fun i a P q e1 e2 => let ⟨z, t⟩ := h.tbs i a P q e1 e2; ⟨z, ht P q t⟩
/-- a thing beside is known from now on -/
theorem After.adopt (a : After K R0 μ0 H0 R μ st H) {p : Addr} {o : HO} (h0 : H0 p = none) (h1 : R p = none) (h2 : p ∉ μ) (e : H p = some o) (ho : ∀ ps, o ≠ .tbl ps := by intro ps z; cases z) : After K R0 μ0 H0 (upd R p o) μ st H where
  g := ⟨fun b u q => by
    have z := a.g.r b u q
    have hne : b ≠ p := fun y => by rw [y, h1] at z; cases z
    rw [upd_ne hne]; exact z, a.g.m⟩
  k := a.k
  new := a.new
  nr := fun b u q n hn => by
    by_cases hb : b = p
    · rw [hb]; exact noT_none h0
    · rw [upd_ne hb] at q; exact a.nr b u q n hn
  h := {
    sub := fun b u q => by
      by_cases hb : b = p
      · subst hb; rw [upd_same] at q; rw [e]; exact q
      · rw [upd_ne hb] at q; exact a.h.sub b u q
    dis := fun b hb => by
      have hne : b ≠ p := fun z => h2 (by rw [← z]; exact hb)
      rw [upd_ne hne]; exact a.h.dis b hb
    nd := a.h.nd
    len := a.h.len
    at_ := fun i b m e1 e2 => (a.h.at_ i b m e1 e2).grow ⟨fun x u q => by
      have hne : x ≠ p := fun y => by rw [y, h1] at q; cases q
      rw [upd_ne hne]; exact q, fun _ _ e => e⟩
    ntb := ntb_upd a.h.ntb ho
    tbs := a.h.tbs }
end
section
variable {K : PySem.W.Frag} {R R0 : Hp} {μ μ0 : List Addr} {H H0 : Hp} {st : Store}
/-- .. as one of the store's -/
theorem After.adoptM (a : After K R0 μ0 H0 R μ st H) {p : Addr} (h0 : H0 p = none) (h1 : R p = none) (h2 : p ∉ μ) {m : MO} (e : ObjR K R μ m (H p)) (nt : m.isTab = false := by rfl) : After K R0 μ0 H0 R (μ ++ [p]) (st ++ [m]) H where
  g := a.g.trans grow_snoc
  k := a.k
  new := fun b hb n => by
    rcases List.mem_append.mp hb with q | q
    · exact a.new b q n
    · rw [List.mem_singleton.mp q]; exact noT_none h0
  nr := a.nr
  h := {
    sub := a.h.sub
    dis := fun b hb => by
      rcases List.mem_append.mp hb with q | q
      · exact a.h.dis b q
      · rw [List.mem_singleton.mp q]; exact h1
    nd := List.nodup_append.mpr ⟨a.h.nd, by simp, fun b hb c hc => by
      rw [List.mem_singleton.mp hc]; rintro rfl; exact h2 hb⟩
    len := by simp [a.h.len]
    at_ := fun i b m' e1 e2 => by
      by_cases hi : i < μ.length
      · rw [List.getElem?_append_left hi] at e1
        rw [List.getElem?_append_left (by rw [← a.h.len]; exact hi)] at e2
        exact (a.h.at_ i b m' e1 e2).grow grow_snoc
      · have hi2 : i = μ.length := by
          have := (List.getElem?_eq_some_iff.mp e1).1
          simp at this; omega
        subst hi2
        rw [List.getElem?_append_right (Nat.le_refl _)] at e1
        rw [List.getElem?_append_right (by rw [a.h.len]; exact Nat.le_refl _)] at e2
        have e1' : p = b := by simpa using e1
        have e2' : m = m' := by simpa [a.h.len] using e2
        subst e1' e2'
        exact e.grow grow_snoc
    ntb := a.h.ntb
    tbs := fun i b P q e1 e2 => by
      by_cases hi : i < μ.length
      · rw [List.getElem?_append_left hi] at e1
        rw [List.getElem?_append_left (by rw [← a.h.len]; exact hi)] at e2
        exact a.h.tbs i b P q e1 e2
      · have hi2 : i = μ.length := by
          have := (List.getElem?_eq_some_iff.mp e1).1
          simp at this; omega
        subst hi2
        rw [List.getElem?_append_right (by rw [a.h.len]; exact Nat.le_refl _)] at e2
        have e2' : m = .tab P q := by simpa [a.h.len] using e2
        rw [e2'] at nt
        cases nt }
end
/-! ### [e for x in it if t] -/
def nox {α : Type} : Res α → Res α
  | .ok a st => .ok a st
  | _ => .bad
def lcLoop (g : EvG) (t : EvT) (f : EvE) : List W → List W → EvA
  | [], acc, _, st => .ok acc st
  | w :: ws, acc, env, st => (nox (g w env st)).bind fun env1 st1 => (nox (t env1 st1)).bind fun b st2 =>
    if b = true then (nox (f env1 st2)).bind fun y st3 => if small (y :: acc) = true then lcLoop g t f ws (acc ++ [y]) env st3 else .bad else lcLoop g t f ws acc env st2
def lcEnd (m : Bool) : List W → Store → Res W := fun ys st => if m = true then .ok (.obj st.length) (st ++ [.L ys]) else .ok (.lst ys) st
/-- m: the new list will be changed -/
def eLc (m : Bool) (it : EvI) (g : EvG) (t : EvT) (f : EvE) : EvE := fun env st => (it env st).bind fun ws st1 => (lcLoop g t f ws [] env st1).bind (lcEnd m)
def bYes : EvT := fun _ st => .ok true st
abbrev noW : WX := fun _ _ _ _ => False
theorem nox_post {K : PySem.W.Frag} {ec : Str → Addr} {R : Hp} {μ : List Addr} {H : Hp} {E E' : XK} {α : Type} {G : α → Store → Hp → List Addr → Hp → Prop} {r : Res α} (h : Post K ec R μ H E G (nox r)) : Post K ec R μ H E' G r := by
  cases r with
  | ok a st => exact h
  | exc c fs st => exact h.elim
  | bad => exact h
/-- a comprehension's target, stored in the slots vs -/
def Tgt (K : PySem.W.Frag) (vs : List Nat) (g : TG) (gv : EvG) : Prop := ∀ (R : Hp) (μ : List Addr) (env : Env') (σ : L2.St) (st : Store) (w : W) (x : V) (H : Hp), EnvR K R μ env σ → HRel K R μ st H → RW K R μ w x →
  gv w env st = .bad ∨ ∃ env2 σ2, gv w env st = .ok env2 st ∧ EnvR K R μ env2 σ2 ∧ wipe σ2 vs = wipe σ vs ∧ ∀ Q : L2.St → Hp → Prop, Q σ2 H → g x (wipe σ vs) H Q
theorem tgt_name {K : PySem.W.Frag} (i : Nat) : Tgt K [i] (gName i) (gN i) := fun R μ env σ st w x H he hh hr => .inr ⟨env.set i (some w), σ.set i (some x), rfl, he.set hr i, by
  show (σ.set i (some x)).set i none = σ.set i none
  rw [List.set_set], fun Q q => by
  show Q ((σ.set i none).set i (some x)) H
  rw [List.set_set]; exact q⟩
theorem tgt_pair {K : PySem.W.Frag} {i j : Nat} (hij : i ≠ j) : Tgt K [i, j] (gTup K 2 (gCons (gName i) (gCons (gName j) gNil))) (gT 2 (gsCons (gN i) (gsCons (gN j) gsNil))) := fun R μ env σ st w x H he hh hr => by
  cases hr with
  | @tup a vs ws hq rs =>
    cases rs with
    | nil => exact .inl rfl
    | @cons w1 x1 ws1 vs1 r1 rs1 =>
      cases rs1 with
      | nil => exact .inl rfl
      | @cons w2 x2 ws2 vs2 r2 rs2 =>
        cases rs2 with
        | cons _ _ => exact .inl rfl
        | nil =>
          refine .inr ⟨(env.set i (some w1)).set j (some w2), (σ.set i (some x1)).set j (some x2), rfl, (he.set r1 i).set r2 j, ?_, fun Q q => ?_⟩
          · show (((σ.set i (some x1)).set j (some x2)).set j none).set i none = (σ.set j none).set i none
            rw [List.set_set, List.set_comm _ _ hij, List.set_set, List.set_comm _ _ (Ne.symm hij)]
          · refine ⟨a, [x1, x2], rfl, sqT_mono hh.sub hq, rfl, x1, [x2], rfl, x2, [], rfl, rfl, ?_⟩
            have e : (((σ.set j none).set i none).set i (some x1)).set j (some x2) = (σ.set i (some x1)).set j (some x2) := by
              rw [List.set_set, List.set_comm _ _ (Ne.symm hij), List.set_set]
            show Q ((((σ.set j none).set i none).set i (some x1)).set j (some x2)) H
            rw [e]; exact q
  | non => exact .inl rfl
  | bl _ => exact .inl rfl
  | int _ => exact .inl rfl
  | str _ => exact .inl rfl
  | lst _ _ => exact .inl rfl
  | scr _ _ => exact .inl rfl
  | obj _ => exact .inl rfl
section
variable {K : PySem.W.Frag} {ec : Str → Addr} {Wx : WX} {it : EvI} {gv : EvG} {t : EvT} {f : EvE}
theorem bind2 {α β γ : Type} {r : Res α} {k : α → Store → Res β} {k' : β → Store → Res γ} : (r.bind k).bind k' = r.bind fun a st => (k a st).bind k' := by cases r <;> rfl
/-- the reading of a comprehension -/
theorem lc_step {mm : Bool} {vs : List Nat} {g : TG} {tt : TT} {σ : L2.St} {H : Hp} {Q : VK} (hg : Tgt K vs g gv) (htt : ∀ σ H Q, tTv K ec noW t σ H Q → tt σ H Q) (h : tEv K ec Wx (eLc mm it gv t f) σ H Q) : tLc (tIv K ec Wx it) g tt (tEv K ec noW f) vs σ H Q := by
  obtain ⟨R, μ, env, st, henv, hh, hp⟩ := h
  refine ⟨R, μ, env, st, henv, hh, hp.seq.mono fun ws st1 R1 μ1 H1 _ q J jok D hD => ?_⟩
  obtain ⟨q1, hp1⟩ := q
  have hD1 := q1.h.fresh hD
  have he1 := henv.grow q1.g
  -- from here on all is told from R1 μ1 H1
  refine ⟨fun i m H2 => m = ws.length - i ∧ i ≤ ws.length ∧ ∃ R2 μ2 st2 acc accV, After K R1 μ1 H1 R2 μ2 st2 H2 ∧ H2 D = some (.lst accV) ∧ R2 D = none ∧ D ∉ μ2 ∧ RWs K R2 μ2 acc accV ∧ acc.length ≤ 1000000 ∧
    Post K ec R1 μ1 H1 (fun c d H' => Wx c d σ H') (GV K Q) ((lcLoop gv t f (ws.drop i) acc env st2).bind (lcEnd mm)), ⟨ws.length, by simp, Nat.zero_le _, R1, μ1, st1, [], [], ?_, upd_same, hD1.1, hD1.2, .nil, by simp, hp1⟩, ?_⟩
  · exact ⟨.refl, fun a o e _ _ => by rw [upd_ne (ne_of_none e hD)]; exact e, q1.h.other hD1.1 hD1.2 _ fun P q t => tabS_new t hD, fun a hm n => absurd hm n, fun a o e n _ => by rw [n] at e; cases e⟩
  rintro i m H2 ⟨rfl, hi, R2, μ2, st2, acc, accV, A2, eD, rD, mD, racc, lacc, hp2⟩
  -- what is laid later is not D
  have later : ∀ {Ra : Hp} {μa : List Addr} {Ha : Hp} {Rb : Hp} {μb : List Addr} {Hb : Hp} {stb : Store} {o : List V}, Ha D = some (.lst o) → Ra D = none → D ∉ μa → After K Ra μa Ha Rb μb stb Hb → Hb D = some (.lst o) ∧ Rb D = none ∧ D ∉ μb := by
    intro Ra μa Ha Rb μb Hb stb o e1 e2 e3 A
    have nt : ∀ ps, HO.lst o ≠ .tbl ps := fun ps z => by cases z
    refine ⟨A.k D _ e1 e3 nt, ?_, fun hm => ((A.new D hm e3).no e1 nt).elim⟩
    cases e : Rb D with
    | none => rfl
    | some u => exact ((A.nr D u e e2 e3).no e1 nt).elim
  by_cases hlt : i < ws.length
  · have ew : ws[i]? = some ws[i] := List.getElem?_eq_getElem hlt
    rw [drop_cons ew] at hp2
    refine .inr ⟨jok.go R2 μ2 st2 H2 i _ A2.g A2.h ew, fun H3 => i + 1 ≤ ws.length ∧ ∃ R2 μ2 st2 acc accV, After K R1 μ1 H1 R2 μ2 st2 H3 ∧ H3 D = some (.lst accV) ∧ R2 D = none ∧ D ∉ μ2 ∧ RWs K R2 μ2 acc accV ∧ acc.length ≤ 1000000 ∧
      Post K ec R1 μ1 H1 (fun c d H' => Wx c d σ H') (GV K Q) ((lcLoop gv t f (ws.drop (i + 1)) acc env st2).bind (lcEnd mm)), fun H' z => ⟨ws.length - (i + 1), by omega, rfl, z.1, z.2⟩, fun x H3 y => ?_⟩
    obtain ⟨R3, A3, r3⟩ := jok.yld R2 μ2 st2 H2 i _ x H3 A2.g A2.h ew y
    obtain ⟨eD3, rD3, mD3⟩ := later eD rD mD A3
    have A13 := A2.trans A3
    have racc3 := racc.grow A3.g
    have he3 := he1.grow A13.g
    generalize hw : ws[i] = w at r3 hp2
    rcases hg R3 μ2 env σ st2 w x H3 he3 A3.h r3 with z | ⟨env4, σ4, z, he4, hwipe, hgo⟩
    · unfold lcLoop at hp2
      rw [z] at hp2
      exact hp2.elim
    · refine hgo _ ⟨hwipe, htt _ _ _ ?_⟩
      unfold lcLoop at hp2
      rw [z] at hp2
      have hp4 : Post K ec R1 μ1 H1 (fun c d H' => Wx c d σ H') (GV K Q) ((nox (t env4 st2)).bind fun b st3 => ((if b = true then (nox (f env4 st3)).bind fun y st4 => if small (y :: acc) = true then lcLoop gv t f (ws.drop (i + 1)) (acc ++ [y]) env st4 else .bad else lcLoop gv t f (ws.drop (i + 1)) acc env st3).bind (lcEnd mm))) := by
        have e0 := hp2
        rw [show (nox (Res.ok env4 st2)) = Res.ok env4 st2 from rfl, Res.bind_ok, bind2] at e0
        exact e0
      have hp5 := (hp4.seq0.from_ A13.since)
      refine ⟨R3, μ2, env4, st2, he4, A3.h, (nox_post (E' := fun c d H' => noW c d σ4 H') hp5).mono fun b st5 R5 μ5 H5 A5 q5 => ?_⟩
      obtain ⟨A15, _, hp6⟩ := q5
      obtain ⟨eD5, rD5, mD5⟩ := later eD3 rD3 mD3 A5
      have racc5 := racc3.grow A5.g
      show if b = true then _ else _
      cases b with
      | false =>
        rw [if_neg Bool.false_ne_true] at hp6 ⊢
        exact ⟨hlt, R5, μ5, st5, acc, accV, A15, eD5, rD5, mD5, racc5, lacc, hp6⟩
      | true =>
        rw [if_pos rfl] at hp6 ⊢
        rw [bind2] at hp6
        have hp7 := (hp6.seq0.from_ A15.since)
        refine ⟨R5, μ5, env4, st5, he4.grow A5.g, A5.h, (nox_post (E' := fun c d H' => noW c d σ4 H') hp7).mono fun y st7 R7 μ7 H7 A7 q7 v rv => ?_⟩
        obtain ⟨A17, _, hp8⟩ := q7
        obtain ⟨eD7, rD7, mD7⟩ := later eD5 rD5 mD5 A7
        have racc7 := racc5.grow A7.g
        by_cases hz : small (y :: acc) = true
        · rw [if_pos hz] at hp8
          have hl : acc.length + 1 ≤ 1000000 := of_decide_eq_true hz
          refine ⟨accV, eD7, by rw [← racc7.length, sizeLine_eq]; omega, hlt, R7, μ7, st7, acc ++ [y], accV ++ [v], ?_, upd_same, rD7, mD7, racc7.append (.cons rv .nil), by simp; omega, hp8⟩
          have hDn : H1 D = none := hD
          exact ⟨A17.g, fun a o e n nt => by rw [upd_ne (ne_of_none e hDn)]; exact A17.k a o e n nt, A17.h.other rD7 mD7 _ fun P q t => tabS_upd t (fun ps z => by rw [eD7] at z; cases z) (fun c q z => by rw [eD7] at z; obtain ⟨T, e⟩ := @codeO_ext c q; rw [e] at z; cases z), A17.new, A17.nr⟩
        · rw [if_neg hz] at hp8; exact hp8.elim
  · have e : i = ws.length := by omega
    subst e
    rw [List.drop_length] at hp2
    refine .inl ⟨jok.stop R2 μ2 st2 H2 A2.g A2.h, ?_⟩
    have hp3 : Post K ec R1 μ1 H1 (fun c d H' => Wx c d σ H') (GV K Q) (lcEnd mm acc st2) := hp2
    cases mm with
    | false =>
      have A := A2.adopt hD rD mD eD
      refine hp3 _ _ _ A _ (.lst upd_same (racc.grow ⟨fun a o q => ?_, fun _ _ q => q⟩))
      have hne : a ≠ D := fun y => by rw [y, rD] at q; cases q
      rw [upd_ne hne]; exact q
    | true =>
      have A := A2.adoptM hD rD mD (m := .L acc) ⟨accV, eD, racc⟩
      refine hp3 _ _ _ A _ (.obj ?_)
      rw [← A2.h.len, List.getElem?_append_right (Nat.le_refl _)]
      simp
end
section
variable {X : Cx} {ec : Str → Addr} {Wx : WX} {it : EvI} {gv : EvG} {t : EvT} {f : EvE} {elt tg iter : Expr} {scope : Scope} {own : List (Str × Nat)} {pos : Pos} {g : TG} {mm : Bool}
theorem yes_of {K : PySem.W.Frag} (σ : L2.St) (H : Hp) (Q : Bool → Hp → Prop) (h : tTv K ec noW bYes σ H Q) : tYes σ H Q := by
  obtain ⟨R, μ, env, st, he, hh, hp⟩ := h
  exact hp.now hh
theorem pv_lc (hc : X.calm = true) (hN : X.N.Nodup) (hi : PIV X ec Wx tg iter it) (ok : BlkOk X.N X.env.scope scope own) (hT : Tgt X.K (own.map (·.2)) g gv)
    (hg : ∀ (s : Shared) (H : Hp) (C : Addr) (cl : List (Str × Addr)) (fp : List Addr), PG (X.blk s H scope (compEnvC scope cl C X.env) fp) tg g)
    (he : ∀ (s : Shared) (H : Hp) (C : Addr) (cl : List (Str × Addr)) (fp : List Addr), PV (X.blk s H scope (compEnvC scope cl C X.env) fp) ec noW elt f) (hs : ∀ x, foldedSetIterable iter X.env x = pure x := by intro _; rfl) :
    PV X ec Wx (.ListComp elt [⟨tg, iter, [], 0⟩] scope pos) (eLc mm it gv bYes f) :=
  (pe_lc hc hN hi ok hg (fun _ _ _ _ _ => pts_nil) he hs).imp fun σ H Q h => lc_step hT (fun σ H Q z => yes_of σ H Q z) h
theorem pv_lcIf {c : Expr} (hc : X.calm = true) (hN : X.N.Nodup) (hi : PIV X ec Wx tg iter it) (ok : BlkOk X.N X.env.scope scope own) (hT : Tgt X.K (own.map (·.2)) g gv)
    (hg : ∀ (s : Shared) (H : Hp) (C : Addr) (cl : List (Str × Addr)) (fp : List Addr), PG (X.blk s H scope (compEnvC scope cl C X.env) fp) tg g)
    (ht : ∀ (s : Shared) (H : Hp) (C : Addr) (cl : List (Str × Addr)) (fp : List Addr), PTV (X.blk s H scope (compEnvC scope cl C X.env) fp) ec noW c t)
    (he : ∀ (s : Shared) (H : Hp) (C : Addr) (cl : List (Str × Addr)) (fp : List Addr), PV (X.blk s H scope (compEnvC scope cl C X.env) fp) ec noW elt f) (hs : ∀ x, foldedSetIterable iter X.env x = pure x := by intro _; rfl) :
    PV X ec Wx (.ListComp elt [⟨tg, iter, [c], 0⟩] scope pos) (eLc mm it gv t f) :=
  (pe_lc hc hN hi ok hg (fun s H C cl fp => pts_one (ht s H C cl fp)) he hs).imp fun σ H Q h => lc_step hT (fun _ _ _ z => z) h
/-- y = [e for ..] -/
theorem pv_setLc {E : XK} {i : Nat} {y : Str} {py : Pos} {spos : Pos} (hc : X.calm = true) (hN : X.N.Nodup) (hy : X.N[i]? = some y) (hyl : X.env.scope.names.lookup y = some .local)
    (hsw : swapsWith (.ListComp elt [⟨tg, iter, [], 0⟩] scope pos) (some (.Name y py)) spos.line X.env = pure true) (hi : PIV X ec (wE E) tg iter it) (ok : BlkOk X.N X.env.scope scope own) (hT : Tgt X.K (own.map (·.2)) g gv)
    (hg : ∀ (s : Shared) (H : Hp) (C : Addr) (cl : List (Str × Addr)) (fp : List Addr), PG (X.blk s H scope (compEnvC scope cl C X.env) fp) tg g)
    (he : ∀ (s : Shared) (H : Hp) (C : Addr) (cl : List (Str × Addr)) (fp : List Addr), PV (X.blk s H scope (compEnvC scope cl C X.env) fp) ec noW elt f) (hs : ∀ x, foldedSetIterable iter X.env x = pure x := by intro _; rfl) :
    PVS X ec E (.Assign [.Name y py] (.ListComp elt [⟨tg, iter, [], 0⟩] scope pos) spos) (sSet i (eLc mm it gv bYes f)) :=
  (ps_setLc hc hN hy hyl hsw hi ok hg (fun _ _ _ _ _ => pts_nil) he hs).imp fun D σ H ⟨R, μ, env, st, he, hh, hp⟩ =>
    lc_step hT (fun σ H Q z => yes_of σ H Q z) (ev_stepG he hh hp fun w st1 R1 μ1 H1 v q1 he1 r hp1 => hp1.now q1.h _ (he1.set r i))
theorem pv_setLcIf {c : Expr} {E : XK} {i : Nat} {y : Str} {py : Pos} {spos : Pos} (hc : X.calm = true) (hN : X.N.Nodup) (hy : X.N[i]? = some y) (hyl : X.env.scope.names.lookup y = some .local)
    (hsw : swapsWith (.ListComp elt [⟨tg, iter, [c], 0⟩] scope pos) (some (.Name y py)) spos.line X.env = pure true) (hi : PIV X ec (wE E) tg iter it) (ok : BlkOk X.N X.env.scope scope own) (hT : Tgt X.K (own.map (·.2)) g gv)
    (hg : ∀ (s : Shared) (H : Hp) (C : Addr) (cl : List (Str × Addr)) (fp : List Addr), PG (X.blk s H scope (compEnvC scope cl C X.env) fp) tg g)
    (ht : ∀ (s : Shared) (H : Hp) (C : Addr) (cl : List (Str × Addr)) (fp : List Addr), PTV (X.blk s H scope (compEnvC scope cl C X.env) fp) ec noW c t)
    (he : ∀ (s : Shared) (H : Hp) (C : Addr) (cl : List (Str × Addr)) (fp : List Addr), PV (X.blk s H scope (compEnvC scope cl C X.env) fp) ec noW elt f) (hs : ∀ x, foldedSetIterable iter X.env x = pure x := by intro _; rfl) :
    PVS X ec E (.Assign [.Name y py] (.ListComp elt [⟨tg, iter, [c], 0⟩] scope pos) spos) (sSet i (eLc mm it gv t f)) :=
  (ps_setLc hc hN hy hyl hsw hi ok hg (fun s H C cl fp => pts_one (ht s H C cl fp)) he hs).imp fun D σ H ⟨R, μ, env, st, he, hh, hp⟩ =>
    lc_step hT (fun _ _ _ z => z) (ev_stepG he hh hp fun w st1 R1 μ1 H1 v q1 he1 r hp1 => hp1.now q1.h _ (he1.set r i))
end
end Vl
end
section
set_option Elab.async false
set_option linter.all false
set_option maxRecDepth 100000
set_option maxHeartbeats 1000000
/-! V4: defs, their calls; own errors, raised. -/
namespace Vl
open PySem PySem.Spec PyProof.Rows L2
/-- a def's promise: it does what F does -/
def spV (K : PySem.W.Frag) (ec : Str → Addr) (n : Nat) (F : List W → Store → Res W) : Sp := fun vs H Q E => ∃ R μ ws st, RWs K R μ ws vs ∧ vs.length = n ∧ HRel K R μ st H ∧ Post K ec R μ H E (GV K Q) (F ws st)
/-- the slots at the start -/
def startE (n : Nat) (ws : List W) : Env' := ws.map some ++ List.replicate (n - ws.length) none
def toF : Out → Store → Res W
  | .nx _, st => .ok .non st
  | .rt w, st => .ok w st
  | _, _ => .bad
/-- what a def's body makes of its arguments: N so many slots -/
def defF (N : Nat) (g : EvS) : List W → Store → Res W := fun ws st => (g (startE N ws) st).bind toF
theorem map_some_get {α : Type} : ∀ {l : List α} {i : Nat}, (l.map some)[i]? = (l[i]?).map some := fun {l i} => List.getElem?_map ..
theorem startE_rel {K : PySem.W.Frag} {R : Hp} {μ : List Addr} {N : List Str} {ws : List W} {vs : List V} (r : RWs K R μ ws vs) : EnvR K R μ (startE N.length ws) (L2.start N vs) where
  len := by simp [startE, L2.start, r.length]
  at_ := fun i w e => by
    unfold startE at e
    by_cases hi : i < ws.length
    · rw [List.getElem?_append_left (by simpa using hi), map_some_get] at e
      cases q : ws[i]? with
      | none => rw [q] at e; cases e
      | some w' =>
        rw [q] at e
        have : w' = w := Option.some.inj (Option.some.inj e)
        subst this
        obtain ⟨v, h1, h2⟩ := r.get q
        refine ⟨v, ?_, h2⟩
        unfold L2.start
        rw [List.getElem?_append_left (by rw [List.length_map, ← r.length]; exact hi), map_some_get, h1]
        rfl
    · rw [List.getElem?_append_right (by simpa using hi)] at e
      have := (List.getElem?_eq_some_iff.mp e).2
      simp at this
section
variable {P : Program} {w : World} {K : PySem.W.Frag} {mg : Str → Option Value} {base : Heap} {ec : Str → Addr} {x qual : Str} {params : Arguments} {body : List Stmt} {scope : Scope} {f : Addr} {fd : FuncData}
/-- a def keeps the promise of its body -/
theorem fnV {N ps : List Str} {k : Nat} {g : EvS} (F : FunD K x qual params body scope [] [] f fd) (S : FnScope N ps scope)
    (hb : ∀ (cdv : Value) (A : Around) (outer : List Env) (s : Shared) (H : Hp) (E : XK), Room k (A.deeper (envOfC qual scope s.heap.objs.size f cdv)) → PVSs (cxOf (L2.CX P w) P w K mg base N qual scope f cdv A outer s H E) ec E body g) :
    FnOk P w K mg base (L2.CX P w) (k + 1) f fd ps (spV K ec ps.length (defF N.length g)) := by
  refine F.ok S (fun vs H Q E ⟨_, _, _, _, _, h, _⟩ => h) fun cdv A outer s H vs Q E hr h => ⟨_, hb cdv A outer s H E hr, ?_⟩
  obtain ⟨R, μ, ws, st, rs, hl, hh, hp⟩ := h
  refine ⟨R, μ, startE N.length ws, st, startE_rel rs, hh, hp.seq.mono fun o st1 R1 μ1 H1 _ q => ?_⟩
  obtain ⟨q1, q2⟩ := q
  cases o with
  | nx env => exact fun σ' _ => q2.now q1.h _ .non
  | rt w => exact q2.now q1.h
  | bk env => exact q2.elim
  | ct env => exact q2.elim
end
section
variable {X : Cx} {ec : Str → Addr} {Wx : WX} {pos p : Pos} {e : Expr} {es : List Expr} {fes : EvA}
def eCall (n : Nat) (F : List W → Store → Res W) (fes : EvA) : EvE := fun env st => (fes env st).bind fun ws st1 => if ws.length = n then F ws st1 else .bad
theorem pv_call {k n : Nat} {f : Addr} {fd : FuncData} {ps : List Str} {F : List W → Store → Res W} {x : Str} (G : FnOk X.prog X.w X.K X.mg X.base (L2.CX X.prog X.w) k f fd ps (spV X.K ec n F)) (hr : Room k X.A) (hg : Gl X x) (hm : X.mg x = some (.ref f))
    (hk : PySem.W.keepIn X.K (.ref f) = true) (hb : Binds X.K fd ps []) (tk : Takes X Wx) (ha : PAV X ec Wx (e :: es) fes) (hdb : (x == ("__debug__" : Str)) = false := by decide)
    (he : starEach (e :: es) X.env = (false, eval e X.env) :: starEach es X.env := by rfl) (hpl : (backTo pos (starEach es X.env)).any (·.1) = false := by rfl) : PV X ec Wx (.Call (.Name x p) (e :: es) [] pos) (eCall n F fes) :=
  (pe_callS (E := WE Wx) G hr hg hm hk hb (fun σ => passAt tk σ) ha hdb he hpl).imp fun σ H Q ⟨R, μ, env, st, henv, hh, hp⟩ => av_stepG henv hh hp fun ws st1 R1 μ1 H1 vs q1 he1 r hp1 => by
    by_cases hz : ws.length = n
    · rw [if_pos hz] at hp1
      exact ⟨R1, μ1, ws, st1, r, by rw [← r.length]; exact hz, q1.h, hp1⟩
    · rw [if_neg hz] at hp1; exact hp1.elim
end
/-! ### own errors: class X(B) with B an own class over ValueError; __init__ calls B.__init__ and stores its arguments -/
/-- B.__init__(self, ..): found on the class B as ValueError's -/
structure BIni (K : PySem.W.Frag) (mg : Str → Option Value) (x : Str) (B : Addr) : Prop where
  gB : mg x = some (.ref B)
  ga : PySem.W.specialIn K (.ref B) "__getattribute__" = some (some (.builtin "type.__getattribute__"))
  rd : PySem.W.readsIn K B (.type "type") = true
  fd : PySem.W.findCls K (.ref B) (.type "type") "__init__" = some (.val (.builtin "ValueError.__init__"))
theorem pe_bini {X : Cx} {x : Str} {B : Addr} {e : Expr} {es : List Expr} {ta : TA} {p1 p2 pos : Pos} {pl : Sem Bool} (T : BIni X.K X.mg x B) (hg : Gl X x) (ha : PA X (e :: es) ta) (hdb : (x == ("__debug__" : Str)) = false := by decide)
    (hc : eval (.Call (.Attribute (.Name x p1) "__init__" p2) (e :: es) [] pos) X.env = (do
      let ov ← eval (.Name x p1) X.env
      standAt p2.atName
      let (f, first) ← holding [ov] (getMethod ov "__init__" pl)
      callWith pos f first (backTo pos (starEach (e :: es) X.env)) (backToKw pos (keywordEach [] X.env))) := by rfl)
    (he : starEach (e :: es) X.env = (false, eval e X.env) :: starEach es X.env := by rfl) (hpl : (backTo pos (starEach es X.env)).any (·.1) = false := by rfl) :
    PE X (.Call (.Attribute (.Name x p1) "__init__" p2) (e :: es) [] pos) (tVeI X.K ta) := by
  refine ⟨fun pins s σ H Q I h => ?_⟩
  refine PySem.W.methodCall_KW (ld_glob I hg T.gB ?_ hdb) hc
  refine PySem.W.method_cls I.kIn T.ga (PySem.W.cls_value I.kIn T.rd T.fd (by decide +kernel) ?_)
  show wpAny _ _ (callWith pos (Value.builtin "ValueError.__init__") [] (backTo pos (starEach (e :: es) X.env)) []) _ _ _
  refine PyProof.Rows.callWith_method1 (thn (ha.run pos pins _ σ H _ (I.tok _) h) fun us s1 ⟨vs, H1, I1, r1, a, C, ws, ev, hl, T, ea, q⟩ => ?_) he hpl
  subst ev
  cases r1 with
  | @cons _ u0 _ ur ra rw' =>
    obtain rfl : u0 = Value.ref a := ra
    have hlen : ur.length ≤ sizeLine := by
      rw [← Paired.length rw', sizeLine_eq]
      omega
    exact oinit_ok T I1 ea hlen fun s' J => ⟨.non, H1, J, rfl, q⟩
/-- an error's __init__: its attributes by name are its arguments -/
def spInit (K : PySem.W.Frag) (C : Addr) (fs : List Str) : Sp := fun vs H Q _ => ∃ (a : Addr) (ys : List V), vs = .ref a :: ys ∧ ys.length = fs.length ∧ H a = some (exo a C none) ∧
  ∀ (d : Addr) (H' : Hp), H' a = some (exo a C (some d)) → H' d = some (exd d (fs.zip ys).reverse) → H d = none → (∀ b o, b ≠ a → H b = some o → H' b = some o) → Q .non H'
section
variable {P : Program} {w : World} {K : PySem.W.Frag} {mg : Str → Option Value} {base : Heap} {qual x m : Str} {params : Arguments} {body : List Stmt} {scope : Scope} {f : Addr} {fd : FuncData} {C B : Addr}
/-- a heap behind self.f = y, .. -/
theorem init_one {f1 : Str} (F : FunD K "__init__" qual params body scope [] [] f fd) (S : FnScope ["self", f1] ["self", f1] scope) (T : OexC K C) (h1 : PySem.W.findIn K (.ref C) f1 = some none)
    (hb : ∀ (cdv : Value) (A : Around) (outer : List Env) (s : Shared) (H : Hp) (E : XK), PSs (cxOf CX0 P w K mg base ["self", f1] qual scope f cdv A outer s H E) body
      (tSeq (tDrop (tVeI K (tCons (tVar 0) (tCons (tC (.str m)) tNil)))) (tOst K f1 (tVar 0) (tVar 1)))) : FnOk P w K mg base CX0 1 f fd ["self", f1] (spInit K C [f1]) := by
  refine F.ok S (fun vs H Q E ⟨a, ys, e, hl, _⟩ => by rw [e]; simp [hl]) fun cdv A outer s H vs Q E hr h => ⟨_, hb cdv A outer s H E, ?_⟩
  obtain ⟨a, ys, rfl, hl, ha, hq⟩ := h
  obtain ⟨y, rfl⟩ : ∃ y, ys = [y] := by
    match ys, hl with
    | [y], _ => exact ⟨y, rfl⟩
  refine ⟨_, rfl, a, C, [.str m], rfl, by simp, T, ha, _, rfl, _, rfl, a, C, rfl, T, h1, .inl ⟨ha, fun dx hd hne => ?_⟩⟩
  exact hq dx _ upd_same (by rw [upd_ne hne, upd_same]; rfl) hd fun b o hb e => by rw [upd_ne hb, upd_ne (ne_of_none e hd)]; exact e
theorem init_two {f1 f2 : Str} (F : FunD K "__init__" qual params body scope [] [] f fd) (S : FnScope ["self", f1, f2] ["self", f1, f2] scope) (T : OexC K C) (h1 : PySem.W.findIn K (.ref C) f1 = some none) (h2 : PySem.W.findIn K (.ref C) f2 = some none)
    (hb : ∀ (cdv : Value) (A : Around) (outer : List Env) (s : Shared) (H : Hp) (E : XK), PSs (cxOf CX0 P w K mg base ["self", f1, f2] qual scope f cdv A outer s H E) body
      (tSeq (tDrop (tVeI K (tCons (tVar 0) (tCons (tC (.str m)) tNil)))) (tSeq (tOst K f1 (tVar 0) (tVar 1)) (tOst K f2 (tVar 0) (tVar 2))))) : FnOk P w K mg base CX0 1 f fd ["self", f1, f2] (spInit K C [f1, f2]) := by
  refine F.ok S (fun vs H Q E ⟨a, ys, e, hl, _⟩ => by rw [e]; simp [hl]) fun cdv A outer s H vs Q E hr h => ⟨_, hb cdv A outer s H E, ?_⟩
  obtain ⟨a, ys, rfl, hl, ha, hq⟩ := h
  obtain ⟨y, z, rfl⟩ : ∃ y z, ys = [y, z] := by
    match ys, hl with
    | [y, z], _ => exact ⟨y, z, rfl⟩
  refine ⟨_, rfl, a, C, [.str m], rfl, by simp, T, ha, _, rfl, _, rfl, a, C, rfl, T, h1, .inl ⟨ha, fun dx hd hne => ?_⟩⟩
  refine ⟨_, rfl, _, rfl, a, C, rfl, T, h2, .inr ⟨dx, _, upd_same, by rw [upd_ne hne, upd_same], by simp, ?_⟩⟩
  exact hq dx _ (by rw [upd_ne (Ne.symm hne), upd_same]) (by rw [upd_same]; rfl) hd fun b o hb e => by rw [upd_ne (ne_of_none e hd), upd_ne hb, upd_ne (ne_of_none e hd)]; exact e
end
/-! ### raise X(e, ..) -/
def sRaise (c : Str) (fs : List Str) (f : EvA) : EvS := fun env st => (f env st).bind fun ws st1 => if ws.length = fs.length then .exc c (fs.zip ws).reverse st1 else .bad
theorem RWf.app {K : PySem.W.Frag} {R : Hp} {μ : List Addr} : ∀ {ks ks' : List (Str × W)} {vs vs' : List (Str × V)}, RWf K R μ ks vs → RWf K R μ ks' vs' → RWf K R μ (ks ++ ks') (vs ++ vs')
  | _, _, _, _, .nil, s => s
  | _, _, _, _, .cons h r, s => .cons h (RWf.app r s)
theorem RWf.rev {K : PySem.W.Frag} {R : Hp} {μ : List Addr} : ∀ {ks : List (Str × W)} {vs : List (Str × V)}, RWf K R μ ks vs → RWf K R μ ks.reverse vs.reverse
  | _, _, .nil => .nil
  | _, _, .cons h r => by rw [List.reverse_cons, List.reverse_cons]; exact (RWf.rev r).app (.cons h .nil)
theorem RWf.zip {K : PySem.W.Frag} {R : Hp} {μ : List Addr} : ∀ (fs : List Str) {ws : List W} {vs : List V}, RWs K R μ ws vs → RWf K R μ (fs.zip ws) (fs.zip vs)
  | [], _, _, _ => .nil
  | _ :: _, _, _, .nil => .nil
  | _ :: fs, _, _, .cons h r => .cons h (RWf.zip fs r)
/-- a heap with more in it -/
theorem HRel.more {K : PySem.W.Frag} {R : Hp} {μ : List Addr} {st : Store} {H H' : Hp} (h : HRel K R μ st H) (k : ∀ b o, H b = some o → H' b = some o) {d : Addr} (hd : H d = none) {o : HO} (e : H' d = some o) (ho : ∀ ps, o ≠ .tbl ps := by intro ps z; cases z) : After K R μ H (upd R d o) μ st H' where
  g := h.growR hd o
  k := fun b u q _ _ => k b u q
  new := fun a hm n => absurd hm n
  nr := fun a u q n _ => by
    by_cases ha : a = d
    · rw [ha]; exact noT_none hd
    · rw [upd_ne ha, n] at q; cases q
  h := {
    sub := fun a u q => by
      by_cases ha : a = d
      · subst ha; rw [upd_same] at q; rw [e]; exact q
      · rw [upd_ne ha] at q; exact k a u (h.sub a u q)
    dis := fun a ha => by
      have hne : a ≠ d := fun z => (h.fresh hd).2 (z ▸ ha)
      rw [upd_ne hne]; exact h.dis a ha
    nd := h.nd
    len := h.len
    at_ := fun i a m e1 e2 => by
      have q := h.at_ i a m e1 e2
      obtain ⟨u, hu⟩ := q.there_
      rw [k a u hu, ← hu]
      exact q.grow (h.growR hd o)
    ntb := ntb_upd h.ntb ho
    tbs := fun i a P q e1 e2 => let ⟨z, t⟩ := h.tbs i a P q e1 e2; ⟨z, t.ext k⟩ }
section
variable {X : Cx} {ec : Str → Addr} {E : XK} {pos p pos' : Pos} {e : Expr} {es : List Expr} {fes : EvA}
theorem pv_raise {C fI : Addr} {x : Str} {fs : List Str} {fd : FuncData} (hc : X.calm = true) (tk : Takes X (wE E)) (T : OexC X.K C) (hec : ec x = C) (iC : PySem.W.findIn X.K (.ref C) "__init__" = some (some (.ref fI))) (tI : PySem.W.typeIn X.K (.ref fI) = some (.type "function"))
    (G : FnOk X.prog X.w X.K X.mg X.base CX0 1 fI fd ("self" :: fs) (spInit X.K C fs)) (hr : Room 2 X.A) (hb : Binds X.K fd ("self" :: fs) []) (hg : Gl X x) (hm : X.mg x = some (.ref C)) (ha : PAV X ec (wE E) (e :: es) fes)
    (hdb : (x == ("__debug__" : Str)) = false := by decide) (he : starEach (e :: es) X.env = (false, eval e X.env) :: starEach es X.env := by rfl) (hpl : (backTo pos (starEach es X.env)).any (·.1) = false := by rfl) (hz : fs.length ≤ 100 := by decide) :
    PVS X ec E (.Raise (some (.Call (.Name x p) (e :: es) [] pos)) none pos') (sRaise x fs fes) :=
  (ps_raise hc tk (pmk_oex (CX := CX0) T iC tI G hr hb .nil pass0 hg hm ha hdb he hpl)).imp fun D σ H ⟨R, μ, env, st, henv, hh, hp⟩ => av_stepG henv hh hp fun ws st1 R1 μ1 H1 vs q1 he1 r hp1 => by
    by_cases hl : ws.length = fs.length
    · rw [if_pos hl] at hp1
      have hl2 : vs.length = fs.length := by rw [← r.length]; exact hl
      refine ⟨by omega, fun a hn => ⟨a, vs, by simp, hl2, upd_same, fun d H2 e1 e2 hd k => ⟨rfl, d, _, e1, e2, ?_, ?_⟩⟩⟩
      · by_cases hda : d = a
        · rw [hda, upd_same] at hd; cases hd
        · rw [upd_ne hda] at hd; exact hd
      · have hda : d ≠ a := fun z => by rw [z, upd_same] at hd; cases hd
        have hd1 : H1 d = none := by rw [upd_ne hda] at hd; exact hd
        have A := q1.h.more (H' := upd (del H2 a) d (.xd (fs.zip vs).reverse)) (fun b o q => by
          have hba : b ≠ a := ne_of_none q hn
          rw [upd_ne (ne_of_none q hd1), del_ne hba]
          exact k b o hba (by rw [upd_ne hba]; exact q)) hd1 (o := .xd (fs.zip vs).reverse) upd_same
        have z := hp1 _ _ _ d _ A upd_same ((RWf.zip fs r).rev.grow A.g)
        rw [hec] at z
        exact z
    · rw [if_neg hl] at hp1; exact hp1.elim
end
end Vl
end
section
set_option Elab.async false
set_option linter.all false
set_option maxRecDepth 100000
set_option maxHeartbeats 1000000
/-! V5: the operations on values. -/
namespace Vl
open PySem PySem.Spec PyProof.Rows L2
section
variable {K : PySem.W.Frag} {ec : Str → Addr} {R : Hp} {μ : List Addr} {H : Hp} {E : XK} {st : Store} {Q : VK}
/-- a result that is there already -/
theorem gv_now {w : W} {v : V} (h : Post K ec R μ H E (GV K Q) (.ok w st)) (hh : HRel K R μ st H) (r : RW K R μ w v) : Q v H := h.now hh v r
/-- a new thing that nobody changes -/
theorem gv_tup {ws : List W} {vs : List V} (h : Post K ec R μ H E (GV K Q) (.ok (.tup ws) st)) (hh : HRel K R μ st H) (r : RWs K R μ ws vs) {p : Addr} (hp : H p = none) : Q (.ref p) (upd H p (.tup vs)) := by
  have A := hh.newR hp (.tup vs)
  exact h _ _ _ A _ (.tup (.of upd_same) (r.grow A.g))
theorem gv_lst {ws : List W} {vs : List V} (h : Post K ec R μ H E (GV K Q) (.ok (.lst ws) st)) (hh : HRel K R μ st H) (r : RWs K R μ ws vs) {p : Addr} (hp : H p = none) : Q (.ref p) (upd H p (.lst vs)) := by
  have A := hh.newR hp (.lst vs)
  exact h _ _ _ A _ (.lst upd_same (r.grow A.g))
end
/-- a list as it stands -/
def lstOf (st : Store) : W → Option (List W)
  | .lst ws => some ws
  | .scr ws => some ws
  | .obj i => match st[i]? with
    | some (.L ws) => some ws
    | _ => none
  | _ => none
theorem lst_of {K : PySem.W.Frag} {R : Hp} {μ : List Addr} {H : Hp} {st : Store} {w : W} {v : V} {ws : List W} (hh : HRel K R μ st H) (r : RW K R μ w v) (h : lstOf st w = some ws) : ∃ a vs, v = .ref a ∧ SqL K H a vs ∧ RWs K R μ ws vs := by
  cases r with
  | @lst a vs ws' ha rs =>
    have : ws' = ws := Option.some.inj h
    subst this
    exact ⟨a, vs, rfl, .of (hh.sub _ _ ha), rs⟩
  | @scr a vs ws' ha rs =>
    have : ws' = ws := Option.some.inj h
    subst this
    exact ⟨a, vs, rfl, sqL_mono hh.sub ha, rs⟩
  | @obj i a ha =>
    unfold lstOf at h
    cases e : st[i]? with
    | none => simp only [e] at h; cases h
    | some m =>
      cases m with
      | D ks => simp only [e] at h; cases h
      | tab P q => simp only [e] at h; cases h
      | L ws' =>
        simp only [e] at h
        have : ws' = ws := Option.some.inj h
        subst this
        obtain ⟨vs, e2, rs⟩ := hh.at_ i a _ ha e
        exact ⟨a, vs, rfl, .of e2, rs⟩
  | _ => cases h
/-- a sequence: a list or a tuple -/
def seqOf (st : Store) : W → Option (List W)
  | .tup ws => some ws
  | w => lstOf st w
theorem seq_of {K : PySem.W.Frag} {R : Hp} {μ : List Addr} {H : Hp} {st : Store} {w : W} {v : V} {ws : List W} (hh : HRel K R μ st H) (r : RW K R μ w v) (h : seqOf st w = some ws) : ∃ a vs, v = .ref a ∧ (SqL K H a vs ∨ SqT K H a vs) ∧ RWs K R μ ws vs := by
  cases r with
  | @tup a vs ws' ha rs =>
    have : ws' = ws := Option.some.inj h
    subst this
    exact ⟨a, vs, rfl, .inr (sqT_mono hh.sub ha), rs⟩
  | lst ha rs =>
    obtain ⟨a, vs, e, q, rs⟩ := lst_of (w := .lst _) hh (.lst ha rs) h
    exact ⟨a, vs, e, .inl q, rs⟩
  | scr ha rs =>
    obtain ⟨a, vs, e, q, rs⟩ := lst_of (w := .scr _) hh (.scr ha rs) h
    exact ⟨a, vs, e, .inl q, rs⟩
  | obj ha =>
    obtain ⟨a, vs, e, q, rs⟩ := lst_of (w := .obj _) hh (.obj ha) h
    exact ⟨a, vs, e, .inl q, rs⟩
  | _ => cases h
/-! ### ints -/
def kII (f : Int → Int → W) : W → W → Store → Res W
  | .int i, .int j, st => .ok (f i j) st
  | _, _, _ => .bad
def kIC (c : Int → Int → Bool) (f : Int → Int → W) : W → W → Store → Res W
  | .int i, .int j, st => if c i j = true then .ok (f i j) st else .bad
  | _, _, _ => .bad
theorem sem_ii {K : PySem.W.Frag} {g : Int → Int → V} {f : Int → Int → W} (hf : ∀ R μ i j, RW K R μ (f i j) (g i j)) : Sem2 K (rI0 g) (kII f) := fun ec R μ st H E Q a b x y hh ra rb hp => by
  cases ra with
  | int i =>
    cases rb with
    | int j => exact ⟨i, j, rfl, rfl, gv_now hp hh (hf R μ i j)⟩
    | _ => exact hp.elim
  | _ => exact hp.elim
theorem sem_ic {K : PySem.W.Frag} {C : Int → Int → Prop} {g : Int → Int → V} {c : Int → Int → Bool} {f : Int → Int → W} (hc : ∀ i j, c i j = true → C i j) (hf : ∀ R μ i j, RW K R μ (f i j) (g i j)) : Sem2 K (rI C g) (kIC c f) := fun ec R μ st H E Q a b x y hh ra rb hp => by
  cases ra with
  | int i =>
    cases rb with
    | int j =>
      have hp' : Post K ec R μ H E (GV K Q) (if c i j = true then .ok (f i j) st else .bad) := hp
      by_cases hz : c i j = true
      · rw [if_pos hz] at hp'; exact ⟨i, j, rfl, rfl, hc i j hz, gv_now hp' hh (hf R μ i j)⟩
      · rw [if_neg hz] at hp'; exact hp'.elim
    | _ => exact hp.elim
  | _ => exact hp.elim
abbrev kAdd := kII fun i j => .int (i + j)
abbrev kSub := kII fun i j => .int (i - j)
abbrev kLt := kII fun i j => .bl (decide (i < j))
abbrev kLe := kII fun i j => .bl (decide (i ≤ j))
abbrev kGt := kII fun i j => .bl (decide (j < i))
abbrev kGe := kII fun i j => .bl (decide (j ≤ i))
abbrev kMul := kIC (fun i j => decide (-(2 ^ 64) < i ∧ i < 2 ^ 64) || decide (-(2 ^ 64) < j ∧ j < 2 ^ 64)) fun i j => .int (i * j)
abbrev kMod := kIC (fun _ j => decide (0 < j)) fun i j => .int (i % j)
abbrev kDiv := kIC (fun _ j => decide (0 < j ∧ j < 1073741824)) fun i j => .int (i / j)
section
variable {K : PySem.W.Frag}
theorem sem_add : Sem2 K (rI0 fun i j => .int (i + j)) kAdd := sem_ii fun _ _ _ _ => .int _
theorem sem_sub : Sem2 K (rI0 fun i j => .int (i - j)) kSub := sem_ii fun _ _ _ _ => .int _
theorem sem_lt : Sem2 K (rI0 fun i j => .bl (decide (i < j))) kLt := sem_ii fun _ _ _ _ => .bl _
theorem sem_le : Sem2 K (rI0 fun i j => .bl (decide (i ≤ j))) kLe := sem_ii fun _ _ _ _ => .bl _
theorem sem_gt : Sem2 K (rI0 fun i j => .bl (decide (j < i))) kGt := sem_ii fun _ _ _ _ => .bl _
theorem sem_ge : Sem2 K (rI0 fun i j => .bl (decide (j ≤ i))) kGe := sem_ii fun _ _ _ _ => .bl _
theorem sem_mul : Sem2 K (rI CMul fun i j => .int (i * j)) kMul := sem_ic (fun i j h => by
  rcases Bool.or_eq_true_iff.mp h with h | h
  · exact .inl (of_decide_eq_true h)
  · exact .inr (of_decide_eq_true h)) fun _ _ _ _ => .int _
theorem sem_mod : Sem2 K (rI (fun _ j => 0 < j) fun i j => .int (i % j)) kMod := sem_ic (fun i j h => of_decide_eq_true h) fun _ _ _ _ => .int _
theorem sem_div : Sem2 K (rI CDiv fun i j => .int (i / j)) kDiv := sem_ic (fun i j h => show 0 < j ∧ j < 1073741824 from of_decide_eq_true h) fun _ _ _ _ => .int _
/-! ### == of plain values, texts added -/
def kEq (neg : Bool) : W → W → Store → Res W
  | .int i, .int j, st => .ok (.bl (cond neg (!decide (i = j)) (decide (i = j)))) st
  | .str i, .str j, st => .ok (.bl (cond neg (!decide (i = j)) (decide (i = j)))) st
  | .bl i, .bl j, st => .ok (.bl (cond neg (!decide (i = j)) (decide (i = j)))) st
  | .str _, .int _, st => .ok (.bl neg) st
  | .non, .non, st => .ok (.bl (!neg)) st
  | _, _, _ => .bad
theorem dv_int (i j : Int) : decide (V.int i = V.int j) = decide (i = j) := by simp
theorem dv_str (i j : Str) : decide (V.str i = V.str j) = decide (i = j) := by simp
theorem dv_bl (i j : Bool) : decide (V.bl i = V.bl j) = decide (i = j) := by simp
theorem dv_si (i : Str) (j : Int) : decide (V.str i = V.int j) = false := by simp
theorem dv_nn : decide (V.non = V.non) = true := by simp
theorem sem_eqs {R : Hp} {μ : List Addr} {H : Hp} {E : XK} {st : Store} {Q : VK} {ec : Str → Addr} {a b : W} {x y : V} (neg : Bool) (hh : HRel K R μ st H) (ra : RW K R μ a x) (rb : RW K R μ b y) (hp : Post K ec R μ H E (GV K Q) (kEq neg a b st)) :
    scal x y = true ∧ Q (.bl (cond neg (!decide (x = y)) (decide (x = y)))) H := by
  cases ra with
  | int i =>
    cases rb with
    | int j => rw [dv_int]; exact ⟨rfl, gv_now hp hh (.bl _)⟩
    | _ => exact hp.elim
  | str i =>
    cases rb with
    | str j => rw [dv_str]; exact ⟨rfl, gv_now hp hh (.bl _)⟩
    | int j => rw [dv_si]; cases neg <;> exact ⟨rfl, gv_now hp hh (.bl _)⟩
    | _ => exact hp.elim
  | bl i =>
    cases rb with
    | bl j => rw [dv_bl]; exact ⟨rfl, gv_now hp hh (.bl _)⟩
    | _ => exact hp.elim
  | non =>
    cases rb with
    | non => rw [dv_nn]; cases neg <;> exact ⟨rfl, gv_now hp hh (.bl _)⟩
    | _ => exact hp.elim
  | _ => exact hp.elim
theorem sem_eq : Sem2 K rEq (kEq false) := fun ec R μ st H E Q a b x y hh ra rb hp => sem_eqs false hh ra rb hp
theorem sem_ne : Sem2 K rNe (kEq true) := fun ec R μ st H E Q a b x y hh ra rb hp => sem_eqs true hh ra rb hp
def kAddS : W → W → Store → Res W
  | .str i, .str j, st => if i.length + j.length ≤ 1000000 then .ok (.str (i ++ j)) st else .bad
  | _, _, _ => .bad
theorem sem_addS : Sem2 K (fun x y H Q => ∃ i j, x = .str i ∧ y = .str j ∧ i.length + j.length ≤ sizeLine ∧ Q (.str (i ++ j)) H) kAddS := fun ec R μ st H E Q a b x y hh ra rb hp => by
  cases ra with
  | str i => cases rb with
    | str j =>
      have hp' : Post K ec R μ H E (GV K Q) (if i.length + j.length ≤ 1000000 then .ok (.str (i ++ j)) st else .bad) := hp
      by_cases hz : i.length + j.length ≤ 1000000
      · rw [if_pos hz] at hp'; exact ⟨i, j, rfl, rfl, by rw [sizeLine_eq]; omega, gv_now hp' hh (.str _)⟩
      · rw [if_neg hz] at hp'; exact hp'.elim
    | _ => exact hp.elim
  | _ => exact hp.elim
/-! ### lists, tuples added -/
def kCat : W → W → Store → Res W
  | .lst ws, .lst zs, st => if small (ws ++ zs) = true then .ok (.lst (ws ++ zs)) st else .bad
  | _, _, _ => .bad
theorem small_app {R : Hp} {μ : List Addr} {ws zs : List W} {vs us : List V} (r : RWs K R μ ws vs) (q : RWs K R μ zs us) (h : small (ws ++ zs) = true) : vs.length + us.length ≤ sizeLine := by
  have h' : (ws ++ zs).length ≤ 1000000 := of_decide_eq_true h
  rw [List.length_append] at h'
  rw [← r.length, ← q.length, sizeLine_eq]; omega
theorem sem_cat : Sem2 K rCat kCat := fun ec R μ st H E Q a b x y hh ra rb hp => by
  cases ra with
  | @lst a vs ws ha rs => cases rb with
    | @lst b us zs hb qs =>
      have hp' : Post K ec R μ H E (GV K Q) (if small (ws ++ zs) = true then .ok (.lst (ws ++ zs)) st else .bad) := hp
      by_cases hz : small (ws ++ zs) = true
      · rw [if_pos hz] at hp'
        exact ⟨a, b, vs, us, rfl, rfl, hh.sub _ _ ha, hh.sub _ _ hb, small_app rs qs hz, fun p hn => gv_lst hp' hh (rs.append qs) hn⟩
      · rw [if_neg hz] at hp'; exact hp'.elim
    | _ => exact hp.elim
  | _ => exact hp.elim
def kCatT : W → W → Store → Res W
  | .tup ws, .tup zs, st => if small (ws ++ zs) = true then .ok (.tup (ws ++ zs)) st else .bad
  | _, _, _ => .bad
theorem RWs.nil_iff {R : Hp} {μ : List Addr} {ws : List W} {vs : List V} (r : RWs K R μ ws vs) : vs = [] ↔ ws = [] := by cases r <;> simp
theorem sem_catT : Sem2 K (rCatA K) kCatT := fun ec R μ st H E Q a b x y hh ra rb hp => by
  cases ra with
  | @tup a vs ws ha rs => cases rb with
    | @tup b us zs hb qs =>
      have hp' : Post K ec R μ H E (GV K Q) (if small (ws ++ zs) = true then .ok (.tup (ws ++ zs)) st else .bad) := hp
      by_cases hz : small (ws ++ zs) = true
      · rw [if_pos hz] at hp'
        refine ⟨a, b, vs, us, rfl, rfl, sqT_mono hh.sub ha, sqT_mono hh.sub hb, small_app rs qs hz, fun e => ?_, fun n e => ?_, fun n1 n2 p hn => gv_tup hp' hh (rs.append qs) hn⟩
        · have e' := rs.nil_iff.mp e
          subst e'
          exact gv_now hp' hh (.tup hb qs)
        · have e' := qs.nil_iff.mp e
          subst e'
          rw [List.append_nil] at hp'
          exact gv_now hp' hh (.tup ha rs)
      · rw [if_neg hz] at hp'; exact hp'.elim
    | _ => exact hp.elim
  | _ => exact hp.elim
/-! ### items -/
theorem RWs.atI {R : Hp} {μ : List Addr} {ws : List W} {vs : List V} {i : Int} {w : W} (r : RWs K R μ ws vs) (h : L2.atI ws i = some w) : ∃ v, L2.atI vs i = some v ∧ RW K R μ w v := by
  unfold L2.atI at h ⊢
  rw [← r.length]
  cases e : ixN ws.length i with
  | none => rw [e] at h; cases h
  | some j =>
    rw [e] at h
    exact r.get h
def kIx : W → W → Store → Res W := fun a b st => match lstOf st a, b with
  | some ws, .int i => (match L2.atI ws i with
    | some w => .ok w st
    | none => .bad)
  | _, _ => .bad
theorem sem_ixL : Sem2 K (rIxL K) kIx := fun ec R μ st H E Q a b x y hh ra rb hp => by
  unfold kIx at hp
  split at hp
  · rename_i ws i e
    cases rb with
    | int i =>
      split at hp
      · rename_i w e2
        obtain ⟨p, vs, rfl, hq, rs⟩ := lst_of hh ra e
        obtain ⟨v, e3, rv⟩ := rs.atI e2
        exact ⟨p, vs, i, v, rfl, rfl, hq, e3, gv_now hp hh rv⟩
      · exact hp.elim
  · exact hp.elim
def kIxT : W → W → Store → Res W := fun a b st => match a, b with
  | .tup ws, .int i => (match L2.atI ws i with
    | some w => .ok w st
    | none => .bad)
  | _, _ => .bad
theorem sem_ixT : Sem2 K (rIxT K) kIxT := fun ec R μ st H E Q a b x y hh ra rb hp => by
  unfold kIxT at hp
  split at hp
  · rename_i ws i
    cases rb with
    | int i =>
      cases ra with
      | @tup p vs _ ha rs =>
        split at hp
        · rename_i w e2
          obtain ⟨v, e3, rv⟩ := rs.atI e2
          exact ⟨p, vs, i, v, rfl, rfl, sqT_mono hh.sub ha, e3, gv_now hp hh rv⟩
        · exact hp.elim
  · exact hp.elim
def kIxS : W → W → Store → Res W := fun a b st => match a, b with
  | .str z, .int i => if z.length ≤ 1000000 then (match L2.atI z.cps.toList i with
    | some c => .ok (.str ⟨#[c]⟩) st
    | none => .bad) else .bad
  | _, _ => .bad
theorem sem_ixS : Sem2 K rIxS kIxS := fun ec R μ st H E Q a b x y hh ra rb hp => by
  unfold kIxS at hp
  split at hp
  · rename_i z i
    cases ra; cases rb
    by_cases hz : z.length ≤ 1000000
    · rw [if_pos hz] at hp
      split at hp
      · rename_i c e2
        exact ⟨z, i, c, rfl, rfl, by rw [sizeLine_eq]; omega, e2, gv_now hp hh (.str _)⟩
      · exact hp.elim
    · rw [if_neg hz] at hp; exact hp.elim
  · exact hp.elim
end
end Vl
end
section
set_option Elab.async false
set_option linter.all false
set_option maxRecDepth 100000
set_option maxHeartbeats 1000000
/-! V6: built-in functions and methods; data compared. -/
namespace Vl
open PySem PySem.Spec PyProof.Rows L2
/-! ### values as data -/
mutual
def dat : W → Option PyData
  | .non => some .none
  | .bl b => some (.bool b)
  | .int i => some (.int i)
  | .str s => some (.str s)
  | .tup l => (dats l).map .tuple
  | .lst l => (dats l).map .list
  | .scr l => (dats l).map .list
  | .obj _ => none
def dats : List W → Option (List PyData)
  | [] => some []
  | w :: ws => match dat w, dats ws with
    | some d, some ds => some (d :: ds)
    | _, _ => none
end
def datS (st : Store) : W → Option PyData
  | .obj i => match st[i]? with
    | some (.L ws) => (dats ws).map .list
    | _ => none
  | w => dat w
section
variable {K : PySem.W.Frag} {R : Hp} {μ : List Addr} {H : Hp} {st : Store}
mutual
theorem dat_rel (hs : ∀ a o, R a = some o → H a = some o) : ∀ {w : W} {v : V} {d : PyData}, RW K R μ w v → dat w = some d → Dp K H v d
  | _, _, d, .non, e => by unfold dat at e; cases e; exact .non
  | _, _, d, .bl b, e => by unfold dat at e; cases e; exact .bl b
  | _, _, d, .int i, e => by unfold dat at e; cases e; exact .int i
  | _, _, d, .str s, e => by unfold dat at e; cases e; exact .str s
  | _, _, d, .tup h r, e => by
    unfold dat at e
    obtain ⟨ds, e1, e2⟩ := Option.map_eq_some_iff.mp e
    subst e2
    exact .tup (sqT_mono hs h) (dats_rel hs r e1)
  | _, _, d, .lst h r, e => by
    unfold dat at e
    obtain ⟨ds, e1, e2⟩ := Option.map_eq_some_iff.mp e
    subst e2
    exact .lst (.of (hs _ _ h)) (dats_rel hs r e1)
  | _, _, d, .scr h r, e => by
    unfold dat at e
    obtain ⟨ds, e1, e2⟩ := Option.map_eq_some_iff.mp e
    subst e2
    exact .lst (sqL_mono hs h) (dats_rel hs r e1)
  | _, _, d, .obj h, e => by unfold dat at e; cases e
theorem dats_rel (hs : ∀ a o, R a = some o → H a = some o) : ∀ {ws : List W} {vs : List V} {ds : List PyData}, RWs K R μ ws vs → dats ws = some ds → DpAll K H vs ds
  | _, _, ds, .nil, e => by unfold dats at e; cases e; exact .nil
  | _, _, ds, .cons h r, e => by
    unfold dats at e
    split at e
    · rename_i d ds' e1 e2
      cases e
      exact .cons (dat_rel hs h e1) (dats_rel hs r e2)
    · cases e
end
theorem datS_rel (hh : HRel K R μ st H) {w : W} {v : V} {d : PyData} (r : RW K R μ w v) (e : datS st w = some d) : Dp K H v d := by
  cases r with
  | @obj i a ha =>
    unfold datS at e
    cases q : st[i]? with
    | none => simp only [q] at e; cases e
    | some m =>
      cases m with
      | D ks => simp only [q] at e; cases e
      | tab P q' => simp only [q] at e; cases e
      | L ws =>
        simp only [q] at e
        obtain ⟨ds, e1, e2⟩ := Option.map_eq_some_iff.mp e
        subst e2
        obtain ⟨vs, e3, rs⟩ := hh.at_ i a _ ha q
        exact .lst (.of e3) (dats_rel hh.sub rs e1)
  | tup h r => exact dat_rel hh.sub (.tup h r) e
  | lst h r => exact dat_rel hh.sub (.lst h r) e
  | scr h r => exact dat_rel hh.sub (.scr h r) e
  | non => exact dat_rel (μ := μ) hh.sub .non e
  | bl b => exact dat_rel (μ := μ) hh.sub (.bl b) e
  | int b => exact dat_rel (μ := μ) hh.sub (.int b) e
  | str b => exact dat_rel (μ := μ) hh.sub (.str b) e
end
def kEqD (neg : Bool) : W → W → Store → Res W := fun a b st => match datS st a, datS st b with
  | some d, some e => if (SeqAt.shaped d && SeqAt.shaped e) = true then .ok (.bl (cond neg (!PyData.eqv d e) (PyData.eqv d e))) st else .bad
  | _, _ => .bad
section
variable {K : PySem.W.Frag}
theorem sem_dd {R : Hp} {μ : List Addr} {H : Hp} {E : XK} {st : Store} {Q : VK} {ec : Str → Addr} {a b : W} {x y : V} (neg : Bool) (hh : HRel K R μ st H) (ra : RW K R μ a x) (rb : RW K R μ b y) (hp : Post K ec R μ H E (GV K Q) (kEqD neg a b st)) :
    ∃ d e, Dp K H x d ∧ Dp K H y e ∧ SeqAt.shaped d = true ∧ SeqAt.shaped e = true ∧ Q (.bl (cond neg (!PyData.eqv d e) (PyData.eqv d e))) H := by
  unfold kEqD at hp
  split at hp
  · rename_i d e e1 e2
    by_cases hz : (SeqAt.shaped d && SeqAt.shaped e) = true
    · rw [if_pos hz] at hp
      obtain ⟨h1, h2⟩ := Bool.and_eq_true_iff.mp hz
      exact ⟨d, e, datS_rel hh ra e1, datS_rel hh rb e2, h1, h2, gv_now hp hh (.bl _)⟩
    · rw [if_neg hz] at hp; exact hp.elim
  · exact hp.elim
theorem sem_eqD : Sem2 K (rEqD K) (kEqD false) := fun ec R μ st H E Q a b x y hh ra rb hp => sem_dd false hh ra rb hp
theorem sem_neD : Sem2 K (rNeD K) (kEqD true) := fun ec R μ st H E Q a b x y hh ra rb hp => sem_dd true hh ra rb hp
/-- x in a tuple, data -/
def rInT (K : PySem.W.Frag) (neg : Bool) : R2 := fun x y H Q => ∃ d ds, Dp K H x d ∧ Dp K H y (.tuple ds) ∧ SeqAt.shaped d = true ∧ SeqAt.shaped (.tuple ds) = true ∧ Q (.bl (cond neg (!ds.any fun z => PyData.eqv z d) (ds.any fun z => PyData.eqv z d))) H
theorem lay_tup {ds : List PyData} (h : SeqAt.shaped (.tuple ds) = true) : PyData.canLayAll0 ds = true := by
  have := SeqAt.canLay_of_shaped h
  simpa only [PyData.canLay0] using this
theorem op_inT {X : Cx} (hu : X.A.units + 65 < cLine) : OpR X (compareOp .In) (rInT X.K false) := by
  intro pins s σ H x y v u Q I rx ry ⟨d, ds, hd, he, sd, se, q⟩
  obtain ⟨as, r1⟩ := Dp.reads I d x v hd rx
  obtain ⟨bs, r2⟩ := Dp.reads I (.tuple ds) y u he ry
  exact SeqAt.in_tuple_reads r2 r1 (lay_tup se) (SeqAt.canLay_of_shaped sd) (room_in_shaped sd hu) ⟨.bl _, H, I, rfl, q⟩
theorem op_notInT {X : Cx} (hu : X.A.units + 65 < cLine) : OpR X (compareOp .NotIn) (rInT X.K true) := by
  intro pins s σ H x y v u Q I rx ry ⟨d, ds, hd, he, sd, se, q⟩
  obtain ⟨as, r1⟩ := Dp.reads I d x v hd rx
  obtain ⟨bs, r2⟩ := Dp.reads I (.tuple ds) y u he ry
  exact SeqAt.notIn_tuple_reads r2 r1 (lay_tup se) (SeqAt.canLay_of_shaped sd) (room_in_shaped sd hu) ⟨.bl _, H, I, rfl, q⟩
def kInT (neg : Bool) : W → W → Store → Res W := fun a b st => match dat a, dat b with
  | some d, some (.tuple ds) => if (SeqAt.shaped d && SeqAt.shaped (.tuple ds)) = true then .ok (.bl (cond neg (!ds.any fun z => PyData.eqv z d) (ds.any fun z => PyData.eqv z d))) st else .bad
  | _, _ => .bad
theorem sem_inT (neg : Bool) : Sem2 K (rInT K neg) (kInT neg) := fun ec R μ st H E Q a b x y hh ra rb hp => by
  unfold kInT at hp
  split at hp
  · rename_i d ds e1 e2
    by_cases hz : (SeqAt.shaped d && SeqAt.shaped (.tuple ds)) = true
    · rw [if_pos hz] at hp
      obtain ⟨h1, h2⟩ := Bool.and_eq_true_iff.mp hz
      exact ⟨d, ds, dat_rel hh.sub ra e1, dat_rel hh.sub rb e2, h1, h2, gv_now hp hh (.bl _)⟩
    · rw [if_neg hz] at hp; exact hp.elim
  · exact hp.elim
/-- x in a list, data -/
def kInL (neg : Bool) : W → W → Store → Res W := fun a b st => match dat a, datS st b with
  | some d, some (.list ds) => if (SeqAt.shaped d && SeqAt.shaped (.list ds)) = true then .ok (.bl (cond neg (!ds.any fun z => PyData.eqv z d) (ds.any fun z => PyData.eqv z d))) st else .bad
  | _, _ => .bad
theorem sem_inLs {R : Hp} {μ : List Addr} {H : Hp} {E : XK} {st : Store} {Q : VK} {ec : Str → Addr} {a b : W} {x y : V} (neg : Bool) (hh : HRel K R μ st H) (ra : RW K R μ a x) (rb : RW K R μ b y) (hp : Post K ec R μ H E (GV K Q) (kInL neg a b st)) :
    ∃ d ds, Dp K H x d ∧ Dp K H y (.list ds) ∧ SeqAt.shaped d = true ∧ SeqAt.shaped (.list ds) = true ∧ Q (.bl (cond neg (!ds.any fun z => PyData.eqv z d) (ds.any fun z => PyData.eqv z d))) H := by
  unfold kInL at hp
  split at hp
  · rename_i d ds e1 e2
    by_cases hz : (SeqAt.shaped d && SeqAt.shaped (.list ds)) = true
    · rw [if_pos hz] at hp
      obtain ⟨h1, h2⟩ := Bool.and_eq_true_iff.mp hz
      exact ⟨d, ds, dat_rel hh.sub ra e1, datS_rel hh rb e2, h1, h2, gv_now hp hh (.bl _)⟩
    · rw [if_neg hz] at hp; exact hp.elim
  · exact hp.elim
theorem sem_inL : Sem2 K (rInD K) (kInL false) := fun ec R μ st H E Q a b x y hh ra rb hp => sem_inLs false hh ra rb hp
theorem sem_notInL : Sem2 K (rNotInD K) (kInL true) := fun ec R μ st H E Q a b x y hh ra rb hp => sem_inLs true hh ra rb hp
/-- a sign in a text -/
def kInS (neg : Bool) : W → W → Store → Res W
  | .str x, .str z, st => (match x.cps.toList with
    | [c] => .ok (.bl (cond neg (!decide (c ∈ z.cps.toList)) (decide (c ∈ z.cps.toList)))) st
    | _ => .bad)
  | _, _, _ => .bad
theorem one_sign {x : Str} {c : Nat} (h : x.cps.toList = [c]) : x = ⟨#[c]⟩ := by
  obtain ⟨l⟩ := x
  have : l = #[c] := by
    have := congrArg List.toArray h
    simpa using this
  rw [this]
theorem sem_inS : Sem2 K (fun x y H Q => ∃ (c : Nat) (z : Str), x = .str ⟨#[c]⟩ ∧ y = .str z ∧ Q (.bl (decide (c ∈ z.cps.toList))) H) (kInS false) := fun ec R μ st H E Q a b x y hh ra rb hp => by
  unfold kInS at hp
  split at hp
  · cases ra; cases rb
    split at hp
    · rename_i c e
      rw [one_sign e]
      exact ⟨c, _, rfl, rfl, gv_now hp hh (.bl _)⟩
    · exact hp.elim
  · exact hp.elim
theorem sem_notInS : Sem2 K (fun x y H Q => ∃ (c : Nat) (z : Str), x = .str ⟨#[c]⟩ ∧ y = .str z ∧ Q (.bl (!decide (c ∈ z.cps.toList))) H) (kInS true) := fun ec R μ st H E Q a b x y hh ra rb hp => by
  unfold kInS at hp
  split at hp
  · cases ra; cases rb
    split at hp
    · rename_i c e
      rw [one_sign e]
      exact ⟨c, _, rfl, rfl, gv_now hp hh (.bl _)⟩
    · exact hp.elim
  · exact hp.elim
end
/-! ### built-in functions -/
def SemC (K : PySem.W.Frag) (r : List V → Hp → VK → Prop) (k : List W → Store → Res W) : Prop := ∀ (ec : Str → Addr) (R : Hp) (μ : List Addr) (st : Store) (H : Hp) (E : XK) (Q : VK) (ws : List W) (vs : List V), HRel K R μ st H → RWs K R μ ws vs →
  Post K ec R μ H E (GV K Q) (k ws st) → r vs H Q
def eCB (k : List W → Store → Res W) (f : EvA) : EvE := fun env st => (f env st).bind fun ws st1 => k ws st1
section
variable {X : Cx} {ec : Str → Addr} {Wx : WX} {pos p apos : Pos} {e o : Expr} {es : List Expr} {fes : EvA} {fa fb fc : EvE} {x name : Str} {id T : String} {r : List V → Hp → VK → Prop} {k : List W → Store → Res W}
theorem pv_callB (hc : CallR X (.builtin id) r) (hs : SemC X.K r k) (hg : Gl X x) (hm : X.mg x = none) (hv : bootBuiltins x = some (.builtin id)) (ha : PAV X ec Wx (e :: es) fes) (hn : x ≠ "__name__" := by decide) (hdb : (x == ("__debug__" : Str)) = false := by decide)
    (he : starEach (e :: es) X.env = (false, eval e X.env) :: starEach es X.env := by rfl) (hpl : (backTo pos (starEach es X.env)).any (·.1) = false := by rfl) : PV X ec Wx (.Call (.Name x p) (e :: es) [] pos) (eCB k fes) :=
  (pe_callB hc hg hm hv ha hn hdb he hpl).imp fun σ H Q ⟨R, μ, env, st, henv, hh, hp⟩ => av_stepG henv hh hp fun ws st1 R1 μ1 H1 vs q1 he1 rs hp1 => hs ec R1 μ1 st1 H1 _ Q ws vs q1.h rs hp1
theorem pv_callTy (hc : CallR X (.type T) r) (hs : SemC X.K r k) (hg : Gl X x) (hm : X.mg x = none) (hv : bootBuiltins x = some (.type T)) (ha : PAV X ec Wx (e :: es) fes) (hn : x ≠ "__name__" := by decide) (hdb : (x == ("__debug__" : Str)) = false := by decide)
    (he : starEach (e :: es) X.env = (false, eval e X.env) :: starEach es X.env := by rfl) (hpl : (backTo pos (starEach es X.env)).any (·.1) = false := by rfl) : PV X ec Wx (.Call (.Name x p) (e :: es) [] pos) (eCB k fes) :=
  (pe_callTy hc hg hm hv ha hn hdb he hpl).imp fun σ H Q ⟨R, μ, env, st, henv, hh, hp⟩ => av_stepG henv hh hp fun ws st1 R1 μ1 H1 vs q1 he1 rs hp1 => hs ec R1 μ1 st1 H1 _ Q ws vs q1.h rs hp1
end
section
variable {K : PySem.W.Frag}
def kLen : List W → Store → Res W := fun ws st => match ws with
  | [.str z] => if z.length ≤ 1000000 then .ok (.int z.length) st else .bad
  | [w] => (match seqOf st w with
    | some ws => .ok (.int ws.length) st
    | none => .bad)
  | _ => .bad
theorem sem_len : SemC K (fun xs H Q => ∃ x n, xs = [x] ∧ LenV K x H n ∧ Q (.int n) H) kLen := fun ec R μ st H E Q ws vs hh rs hp => by
  unfold kLen at hp
  split at hp
  · rename_i z
    cases rs with
    | cons r1 rr =>
      cases rr
      cases r1
      by_cases hz : z.length ≤ 1000000
      · rw [if_pos hz] at hp
        exact ⟨_, z.length, rfl, ⟨by rw [sizeLine_eq]; omega, rfl⟩, gv_now hp hh (.int _)⟩
      · rw [if_neg hz] at hp; exact hp.elim
  · rename_i w _
    cases rs with
    | cons r1 rr =>
      cases rr
      split at hp
      · rename_i ws e
        obtain ⟨a, us, rfl, q, rs⟩ := seq_of hh r1 e
        refine ⟨_, us.length, rfl, ?_, ?_⟩
        · rcases q with q | q
          · exact .inl ⟨us, q, rfl⟩
          · exact .inr ⟨us, q, rfl⟩
        · have z := gv_now hp hh (.int _)
          rw [rs.length] at z
          exact z
      · exact hp.elim
  · exact hp.elim
def kTuple : List W → Store → Res W := fun ws st => match ws with
  | [w] => (match seqOf st w with
    | some ws => .ok (.tup ws) st
    | none => .bad)
  | _ => .bad
theorem sem_tuple : SemC K (fun xs H Q => ∃ p ys, xs = [.ref p] ∧ ((SqL K H p ys ∧ ∀ l, H l = none → Q (.ref l) (upd H l (.tup ys))) ∨ (SqT K H p ys ∧ Q (.ref p) H))) kTuple := fun ec R μ st H E Q ws vs hh rs hp => by
  unfold kTuple at hp
  split at hp
  · rename_i w
    cases rs with
    | cons r1 rr =>
      cases rr
      split at hp
      · rename_i ws e
        cases r1 with
        | @tup a us ws' ha rs =>
          have : ws' = ws := Option.some.inj e
          subst this
          exact ⟨a, us, rfl, .inr ⟨sqT_mono hh.sub ha, gv_now hp hh (.tup ha rs)⟩⟩
        | lst ha rs =>
          obtain ⟨a, us, e2, q, rs⟩ := lst_of (w := .lst _) hh (.lst ha rs) e
          cases e2
          exact ⟨_, us, rfl, .inl ⟨q, fun p hn => gv_tup hp hh rs hn⟩⟩
        | scr ha rs =>
          obtain ⟨a, us, e2, q, rs⟩ := lst_of (w := .scr _) hh (.scr ha rs) e
          cases e2
          exact ⟨_, us, rfl, .inl ⟨q, fun p hn => gv_tup hp hh rs hn⟩⟩
        | obj ha =>
          obtain ⟨a, us, e2, q, rs⟩ := lst_of (w := .obj _) hh (.obj ha) e
          cases e2
          exact ⟨_, us, rfl, .inl ⟨q, fun p hn => gv_tup hp hh rs hn⟩⟩
        | _ => cases e
      · exact hp.elim
  · exact hp.elim
def kList : List W → Store → Res W := fun ws st => match ws with
  | [w] => (match seqOf st w with
    | some ws => .ok (.lst ws) st
    | none => .bad)
  | _ => .bad
theorem sem_list : SemC K (fun xs H Q => ∃ p ys, xs = [.ref p] ∧ (SqL K H p ys ∨ SqT K H p ys) ∧ ∀ l, H l = none → Q (.ref l) (upd H l (.lst ys))) kList := fun ec R μ st H E Q ws vs hh rs hp => by
  unfold kList at hp
  split at hp
  · rename_i w
    cases rs with
    | cons r1 rr =>
      cases rr
      split at hp
      · rename_i ws e
        obtain ⟨a, us, rfl, q, rs⟩ := seq_of hh r1 e
        exact ⟨a, us, rfl, q, fun p hn => gv_lst hp hh rs hn⟩
      · exact hp.elim
  · exact hp.elim
def kInt : List W → Store → Res W := fun ws st => match ws with
  | [.int i] => .ok (.int i) st
  | _ => .bad
theorem sem_int : SemC K (fun xs H Q => (∃ i, xs = [.int i] ∧ Q (.int i) H) ∨ ∃ k, xs = [.bl k] ∧ Q (.int (if k then 1 else 0)) H) kInt := fun ec R μ st H E Q ws vs hh rs hp => by
  unfold kInt at hp
  split at hp
  · cases rs with
    | cons r1 rr =>
      cases rr
      cases r1
      exact .inl ⟨_, rfl, gv_now hp hh (.int _)⟩
  · exact hp.elim
def kIntS : List W → Store → Res W := fun ws st => match ws with
  | [.str z] => if z.length ≤ 640 then (match PySem.intText? z with
    | some n => .ok (.int n) st
    | none => .bad) else .bad
  | _ => .bad
theorem sem_intS : SemC K (fun xs H Q => ∃ a n, xs = [.str a] ∧ PySem.intText? a = some n ∧ a.length ≤ 640 ∧ Q (.int n) H) kIntS := fun ec R μ st H E Q ws vs hh rs hp => by
  unfold kIntS at hp
  split at hp
  · rename_i z
    cases rs with
    | cons r1 rr =>
      cases rr
      cases r1
      by_cases hz : z.length ≤ 640
      · rw [if_pos hz] at hp
        split at hp
        · rename_i n e
          exact ⟨z, n, rfl, e, hz, gv_now hp hh (.int _)⟩
        · exact hp.elim
      · rw [if_neg hz] at hp; exact hp.elim
  · exact hp.elim
def kStr : List W → Store → Res W := fun ws st => match ws with
  | [.int i] => if i.natAbs.log2 < 1920 then .ok (.str (toString i)) st else .bad
  | _ => .bad
theorem sem_str : SemC K (fun xs H Q => ∃ i, xs = [.int i] ∧ i.natAbs.log2 < 1920 ∧ Q (.str (toString i)) H) kStr := fun ec R μ st H E Q ws vs hh rs hp => by
  unfold kStr at hp
  split at hp
  · rename_i i
    cases rs with
    | cons r1 rr =>
      cases rr
      cases r1
      by_cases hz : i.natAbs.log2 < 1920
      · rw [if_pos hz] at hp
        exact ⟨i, rfl, hz, gv_now hp hh (.str _)⟩
      · rw [if_neg hz] at hp; exact hp.elim
  · exact hp.elim
/-- dict(d) -/
def kDict : List W → Store → Res W := fun ws st => match ws with
  | [.obj i] => (match st[i]? with
    | some (.D ks) => .ok (.obj st.length) (st ++ [.D ks])
    | _ => .bad)
  | _ => .bad
theorem sem_dict : SemC K (fun xs H Q => ∃ (a : Addr) (kvs : List (Key × V)), xs = [.ref a] ∧ Rd H a (.dK kvs) ∧ ∀ p, H p = none → Q (.ref p) (upd H p (.dK kvs))) kDict := fun ec R μ st H E Q ws vs hh rs hp => by
  unfold kDict at hp
  split at hp
  · rename_i i
    cases rs with
    | cons r1 rr =>
      cases rr
      cases r1 with
      | @obj _ a ha =>
        split at hp
        · rename_i ks e
          obtain ⟨us, e2, rd⟩ := hh.at_ i a _ ha e
          refine ⟨a, us, rfl, .inl e2, fun p hn => ?_⟩
          have A := hh.newM (m := .D ks) hn ⟨us, rfl, rd⟩
          refine hp _ _ _ A _ (.obj ?_)
          rw [← hh.len, List.getElem?_append_right (Nat.le_refl _)]
          simp
        · exact hp.elim
  · exact hp.elim
/-- isinstance(x, T) -/
def tyName : W → Option String
  | .non => some "NoneType"
  | .bl _ => some "bool"
  | .int _ => some "int"
  | .str _ => some "str"
  | .tup _ => some "tuple"
  | .lst _ => some "list"
  | _ => none
theorem ty_of {R : Hp} {μ : List Addr} {H : Hp} {w : W} {v : V} {n : String} (hs : ∀ a o, R a = some o → H a = some o) (r : RW K R μ w v) (e : tyName w = some n) : TyX K H v (.type n) := by
  cases r with
  | non => cases e; exact .base .non
  | bl b => cases e; exact .base (.bl b)
  | int i => cases e; exact .base (.int i)
  | str s => cases e; exact .base (.str s)
  | tup h _ =>
    cases e
    rcases h with (h | ⟨o, h⟩) | ⟨o, its, n, hk, hc, _⟩
    · exact .base (.tup (hs _ _ h))
    · exact .fTuple (hs _ _ h)
    · exact .kTuple hk hc
  | lst h _ => cases e; exact .base (.lst (hs _ _ h))
  | _ => cases e
end
end Vl
end
section
set_option Elab.async false
set_option linter.all false
set_option maxRecDepth 100000
set_option maxHeartbeats 1000000
/-! V7: isinstance, methods, dicts, slices, stores by place. -/
namespace Vl
open PySem PySem.Spec PyProof.Rows L2
/-! ### isinstance(x, T) -/
def isT (n T : String) : Bool := n == T || (n == "bool" && T == "int")
def kinds : List String := ["NoneType", "bool", "int", "str", "tuple", "list"]
theorem kit_tab : (kinds.all fun n => ["bool", "int", "str", "tuple", "list"].all fun T => kitB n T == some (isT n T)) = true := by decide +kernel
theorem kit_at {n T : String} (h : n ∈ kinds) (h2 : T ∈ ["bool", "int", "str", "tuple", "list"]) : kitB n T = some (isT n T) := by
  have a := List.all_eq_true.mp kit_tab n h
  have b := List.all_eq_true.mp a T h2
  exact eq_of_beq b
theorem ty_mem {w : W} {n : String} (e : tyName w = some n) : n ∈ kinds := by
  cases w <;> first | (cases e; decide) | cases e
def eIsi (T : String) (f : EvE) : EvE := fun env st => (f env st).bind fun w st1 => match tyName w with
  | some n => .ok (.bl (isT n T)) st1
  | none => .bad
section
variable {X : Cx} {ec : Str → Addr} {Wx : WX} {pos p p2 apos : Pos} {a b c e o : Expr} {es : List Expr} {fes : EvA} {fa fb fc : EvE}
theorem pv_isi {T : Str} {n : String} (hT : bootBuiltins T = some (.type n)) (hin : n ∈ ["bool", "int", "str", "tuple", "list"]) (hg : Gl X "isinstance") (hm : X.mg "isinstance" = none) (hg2 : Gl X T) (hm2 : X.mg T = none) (ha : PV X ec Wx a fa)
    (hn : T ≠ "__name__" := by decide) (hdb : (T == ("__debug__" : Str)) = false := by decide)
    (he : starEach [a, .Name T p2] X.env = (false, eval a X.env) :: starEach [.Name T p2] X.env := by rfl) (he2 : starEach [.Name T p2] X.env = (false, eval (.Name T p2) X.env) :: starEach [] X.env := by rfl)
    (hpl : (backTo pos (starEach [.Name T p2] X.env)).any (·.1) = false := by rfl) : PV X ec Wx (.Call (.Name "isinstance" p) [a, .Name T p2] [] pos) (eIsi n fa) :=
  (pe_callB call_isi hg hm boot_isinstance (pa_cons ha (pa_cons (pe_bltn (v := .ty n) hg2 hm2 hT rfl hn hdb) pa_nil he2) he) (by decide) (by decide) he hpl).imp fun σ H Q ⟨R, μ, env, st, henv, hh, hp⟩ => by
    refine ev_step henv hh hp fun w st1 R1 μ1 H1 v q1 he1 r hp1 => ?_
    cases e : tyName w with
    | none => simp only [e] at hp1; exact hp1.elim
    | some m =>
      simp only [e] at hp1
      exact ⟨v, .ty n, .type m, .type n, isT m n, rfl, .ty n, ty_of q1.h.sub r e, kit_ty (kit_at (ty_mem e) hin), gv_now hp1 q1.h (.bl _)⟩
/-! ### methods of built-in types -/
def SemM (K : PySem.W.Frag) (r : V → List V → Hp → VK → Prop) (k : W → List W → Store → Res W) : Prop := ∀ (ec : Str → Addr) (R : Hp) (μ : List Addr) (st : Store) (H : Hp) (E : XK) (Q : VK) (a : W) (x : V) (ws : List W) (vs : List V), HRel K R μ st H → RW K R μ a x → RWs K R μ ws vs →
  Post K ec R μ H E (GV K Q) (k a ws st) → r x vs H Q
def isL (w : W) (st : Store) : Bool := (lstOf st w).isSome
def isS (w : W) (_ : Store) : Bool := match w with
  | .str _ => true
  | _ => false
def TyOk (K : PySem.W.Frag) (T : String) (c : W → Store → Bool) : Prop := ∀ (R : Hp) (μ : List Addr) (st : Store) (H : Hp) (a : W) (x : V), HRel K R μ st H → RW K R μ a x → c a st = true → tyV K T x H
theorem tyok_list {K : PySem.W.Frag} : TyOk K "list" isL := fun R μ st H a x hh r h => by
  obtain ⟨ws, e⟩ := Option.isSome_iff_exists.mp h
  obtain ⟨p, vs, rfl, q, _⟩ := lst_of hh r e
  exact .inl ⟨rfl, vs, q⟩
theorem tyok_str {K : PySem.W.Frag} : TyOk K "str" isS := fun R μ st H a x hh r h => by
  cases r with
  | str s => exact rfl
  | _ => cases h
def eM0 (c : W → Store → Bool) (k : W → List W → Store → Res W) (f : EvE) : EvE := fun env st => (f env st).bind fun a st1 => if c a st1 = true then k a [] st1 else .bad
def eM (c : W → Store → Bool) (k : W → List W → Store → Res W) (f : EvE) (g : EvA) : EvE := fun env st => (f env st).bind fun a st1 => if c a st1 = true then (g env st1).bind fun ws st2 => k a ws st2 else .bad
variable {name : Str} {T id : String} {r : V → List V → Hp → VK → Prop} {k : W → List W → Store → Res W} {tc : W → Store → Bool} {cpos : Pos}
theorem pv_bm0 (pa : PlainAttrs T) (slot : Slot T name id) (hty : typeOf (.builtin id) = pure (.type "method_descriptor")) (hm : MtR X id r) (ht : TyOk X.K T tc) (hs : SemM X.K r k) (ho : PV X ec Wx o fa)
    (hbase : attributeBase o name X.env (eval o X.env) = eval o X.env := by rfl) (hline : (apos.endLine == cpos.line) = true := by rfl) : PV X ec Wx (.Call (.Attribute o name apos) [] [] cpos) (eM0 tc k fa) :=
  (pe_bm0 pa slot hty hm ho hbase hline).imp fun σ H Q ⟨R, μ, env, st, henv, hh, hp⟩ => ev_step henv hh hp fun w st1 R1 μ1 H1 v q1 he1 r1 hp1 => by
    by_cases hz : tc w st1 = true
    · rw [if_pos hz] at hp1
      exact ⟨ht R1 μ1 st1 H1 w v q1.h r1 hz, hs ec R1 μ1 st1 H1 _ Q w v [] [] q1.h r1 .nil hp1⟩
    · rw [if_neg hz] at hp1; exact hp1.elim
theorem pv_bm (pa : PlainAttrs T) (slot : Slot T name id) (hty : typeOf (.builtin id) = pure (.type "method_descriptor")) (hm : MtR X id r) (ht : TyOk X.K T tc) (hs : SemM X.K r k) (ho : PV X ec Wx o fa) (ha : PAV X ec Wx (e :: es) fes)
    (hbase : attributeBase o name X.env (eval o X.env) = eval o X.env := by rfl)
    (hfew : ((backTo cpos (starEach (e :: es) X.env)).all (fun x => !x.1) && (backToKw cpos (keywordEach [] X.env)).all (fun x => x.1.isSome)
      && decide ((e :: es).length + ([] : List Keyword).length + (if ([] : List Keyword).isEmpty then 0 else 1) < 30)) = true := by rfl)
    (hline : (apos.endLine == cpos.line) = true := by rfl) (hst : starEach (e :: es) X.env = (false, eval e X.env) :: starEach es X.env := by rfl) (hplain : (backTo cpos (starEach es X.env)).any (·.1) = false := by rfl) :
    PV X ec Wx (.Call (.Attribute o name apos) (e :: es) [] cpos) (eM tc k fa fes) :=
  (pe_bm pa slot hty hm ho ha hbase hfew hline hst hplain).imp fun σ H Q ⟨R, μ, env, st, henv, hh, hp⟩ => ev_step henv hh hp fun w st1 R1 μ1 H1 v q1 he1 r1 hp1 => by
    by_cases hz : tc w st1 = true
    · rw [if_pos hz] at hp1
      refine ⟨ht R1 μ1 st1 H1 w v q1.h r1 hz, av_stepG he1 q1.h hp1 fun ws st2 R2 μ2 H2 vs q2 he2 rs hp2 => ?_⟩
      exact hs ec R2 μ2 st2 H2 _ Q w v ws vs q2.h (r1.grow q2.g) rs hp2
    · rw [if_neg hz] at hp1; exact hp1.elim
end
section
variable {K : PySem.W.Frag}
def kAppend : W → List W → Store → Res W := fun a ws st => match a, ws with
  | .obj i, [w] => (match st[i]? with
    | some (.L zs) => if small (w :: zs) = true then .ok .non (st.set i (.L (zs ++ [w]))) else .bad
    | _ => .bad)
  | _, _ => .bad
theorem sem_append : SemM K rAppend kAppend := fun ec R μ st H E Q a x ws vs hh ra rs hp => by
  unfold kAppend at hp
  split at hp
  · rename_i i w
    cases ra with
    | @obj _ p hi =>
      cases rs with
      | @cons _ v _ _ r1 rr =>
        cases rr
        split at hp
        · rename_i zs e
          obtain ⟨us, e2, qs⟩ := hh.at_ i p _ hi e
          by_cases hz : small (w :: zs) = true
          · rw [if_pos hz] at hp
            have hl : zs.length + 1 ≤ 1000000 := of_decide_eq_true hz
            refine ⟨p, us, v, rfl, rfl, e2, by rw [← qs.length, sizeLine_eq]; omega, ?_⟩
            have A := hh.setM (m := .L (zs ++ [w])) hi e ⟨us ++ [v], rfl, qs.append (.cons r1 .nil)⟩
            exact hp _ _ _ A _ .non
          · rw [if_neg hz] at hp; exact hp.elim
        · exact hp.elim
  · exact hp.elim
def kPop : W → List W → Store → Res W := fun a ws st => match a, ws with
  | .obj i, [] => (match st[i]? with
    | some (.L zs) => (match zs[zs.length - 1]? with
      | some w => .ok w (st.set i (.L zs.dropLast))
      | none => .bad)
    | _ => .bad)
  | _, _ => .bad
theorem sem_pop : SemM K rPop kPop := fun ec R μ st H E Q a x ws vs hh ra rs hp => by
  unfold kPop at hp
  split at hp
  · rename_i i
    cases ra with
    | @obj _ p hi =>
      cases rs
      split at hp
      · rename_i zs e
        obtain ⟨us, e2, qs⟩ := hh.at_ i p _ hi e
        split at hp
        · rename_i w e3
          obtain ⟨v, e4, rv⟩ := qs.get e3
          refine ⟨p, us, v, rfl, rfl, e2, by rw [← qs.length]; exact e4, ?_⟩
          have A := hh.setM (m := .L zs.dropLast) hi e ⟨us.dropLast, rfl, qs.dropLast⟩
          exact hp _ _ _ A _ rv
        · exact hp.elim
      · exact hp.elim
  · exact hp.elim
/-- texts in a row -/
def strsOf : List W → Option (List Str)
  | [] => some []
  | .str z :: ws => (strsOf ws).map (z :: ·)
  | _ => none
theorem strs_of {R : Hp} {μ : List Addr} : ∀ {ws : List W} {vs : List V} {zs : List Str}, RWs K R μ ws vs → strsOf ws = some zs → vs = zs.map V.str
  | _, _, zs, .nil, e => by unfold strsOf at e; cases e; rfl
  | w :: ws, _, zs, .cons r rs, e => by
    cases r with
    | str z =>
      unfold strsOf at e
      obtain ⟨zs', e1, e2⟩ := Option.map_eq_some_iff.mp e
      subst e2
      rw [strs_of rs e1]
      rfl
    | _ => unfold strsOf at e; cases e
theorem rws_strs {R : Hp} {μ : List Addr} : ∀ zs : List Str, RWs K R μ (zs.map W.str) (zs.map V.str)
  | [] => .nil
  | z :: zs => .cons (.str z) (rws_strs zs)
def kSplit : W → List W → Store → Res W := fun a ws st => match a, ws with
  | .str x, [.str y] => if (y.length == 0) = false ∧ x.length ≤ 1000000 then .ok (.lst ((Txt.split x y).map W.str)) st else .bad
  | _, _ => .bad
theorem sem_split : SemM K (fun x xs H Q => ∃ a b, x = .str a ∧ xs = [.str b] ∧ (b.length == 0) = false ∧ a.length + 2 ≤ sizeLine ∧ rNewStrs (Txt.split a b) H Q) kSplit := fun ec R μ st H E Q a x ws vs hh ra rs hp => by
  unfold kSplit at hp
  split at hp
  · rename_i x y
    cases ra
    cases rs with
    | cons r1 rr =>
      cases rr
      cases r1
      by_cases hz : (y.length == 0) = false ∧ x.length ≤ 1000000
      · rw [if_pos hz] at hp
        exact ⟨x, y, rfl, rfl, hz.1, by rw [sizeLine_eq]; omega, fun p hn => gv_lst hp hh (rws_strs _) hn⟩
      · rw [if_neg hz] at hp; exact hp.elim
  · exact hp.elim
def kJoin : W → List W → Store → Res W := fun a ws st => match a, ws with
  | .str x, [w] => (match lstOf st w with
    | some zs => (match strsOf zs with
      | some ys => if (ys.map (·.length)).sum + ys.length * x.length ≤ 16777216 then .ok (.str (Txt.join x ys)) st else .bad
      | none => .bad)
    | none => .bad)
  | _, _ => .bad
theorem sem_join : SemM K (fun x xs H Q => ∃ a p, ∃ ys : List Str, x = .str a ∧ xs = [.ref p] ∧ (SqL K H p (ys.map V.str) ∨ SqT K H p (ys.map V.str)) ∧ (ys.map (·.length)).sum + ys.length * a.length ≤ 16777216 ∧ Q (.str (Txt.join a ys)) H) kJoin := fun ec R μ st H E Q a x ws vs hh ra rs hp => by
  unfold kJoin at hp
  split at hp
  · rename_i x w
    cases ra
    cases rs with
    | cons r1 rr =>
      cases rr
      split at hp
      · rename_i zs e
        split at hp
        · rename_i ys e2
          by_cases hz : (ys.map (·.length)).sum + ys.length * x.length ≤ 16777216
          · rw [if_pos hz] at hp
            obtain ⟨p, us, rfl, q, qs⟩ := lst_of hh r1 e
            rw [strs_of qs e2] at q
            exact ⟨x, p, ys, rfl, rfl, .inl q, hz, gv_now hp hh (.str _)⟩
          · rw [if_neg hz] at hp; exact hp.elim
        · exact hp.elim
      · exact hp.elim
  · exact hp.elim
def kStarts : W → List W → Store → Res W := fun a ws st => match a, ws with
  | .str x, [.str y] => .ok (.bl (Txt.startswith x y)) st
  | _, _ => .bad
theorem sem_starts : SemM K (fun x xs H Q => ∃ a b, x = .str a ∧ xs = [.str b] ∧ Q (.bl (Txt.startswith a b)) H) kStarts := fun ec R μ st H E Q a x ws vs hh ra rs hp => by
  unfold kStarts at hp
  split at hp
  · cases ra
    cases rs with
    | cons r1 rr =>
      cases rr
      cases r1
      exact ⟨_, _, rfl, rfl, gv_now hp hh (.bl _)⟩
  · exact hp.elim
def kIndexS : W → List W → Store → Res W := fun a ws st => match a, ws with
  | .str x, [.str y] => (match Builtin.Str.occurrences x y 0 x.length 1 with
    | i :: _ => .ok (.int (i : Nat)) st
    | [] => .bad)
  | _, _ => .bad
theorem sem_indexS : SemM K (fun x xs H Q => ∃ a b i rest, x = .str a ∧ xs = [.str b] ∧ Builtin.Str.occurrences a b 0 a.length 1 = i :: rest ∧ Q (.int (i : Nat)) H) kIndexS := fun ec R μ st H E Q a x ws vs hh ra rs hp => by
  unfold kIndexS at hp
  split at hp
  · rename_i x y
    cases ra
    cases rs with
    | cons r1 rr =>
      cases rr
      cases r1
      split at hp
      · rename_i i rest e
        exact ⟨x, y, i, rest, rfl, rfl, e, gv_now hp hh (.int _)⟩
      · exact hp.elim
  · exact hp.elim
/-! ### dicts with text keys -/
theorem RWd.val {R : Hp} {μ : List Addr} {k : Str} : ∀ {ks : List (Str × W)} {vs : List (Key × V)} {w : W}, RWd K R μ ks vs → ks.lookup k = some w → ∃ v, valV vs (Sum.inr k) = some v ∧ RW K R μ w v
  | _, _, _, .nil, e => by cases e
  | (k', w') :: ks, _, w, .cons (v := v') h r, e => by
    by_cases q : k = k'
    · subst q
      simp [List.lookup] at e
      subst e
      exact ⟨v', valV_pos rfl, h⟩
    · have q' : (k == k') = false := by simpa using q
      simp only [List.lookup, q'] at e
      obtain ⟨v, e1, e2⟩ := RWd.val r e
      exact ⟨v, by rw [valV_neg (fun z => q (Sum.inr.inj z).symm)]; exact e1, e2⟩
def putD (k : Str) (w : W) : List (Str × W) → List (Str × W)
  | [] => [(k, w)]
  | (k', w') :: ks => if k' = k then (k', w) :: ks else (k', w') :: putD k w ks
end
end Vl
end
section
set_option Elab.async false
set_option linter.all false
set_option maxRecDepth 100000
set_option maxHeartbeats 1000000
/-! V8: dicts, slices, stores by place. -/
namespace Vl
open PySem PySem.Spec PyProof.Rows L2
def putW (ks : List (Str × W)) (k : Str) (w : W) : List (Str × W) := if (ks.any fun p => decide (p.1 = k)) = true then ks.map fun p => if p.1 = k then (p.1, w) else p else ks ++ [(k, w)]
section
variable {K : PySem.W.Frag} {R : Hp} {μ : List Addr}
theorem RWd.any {k : Str} : ∀ {ks : List (Str × W)} {vs : List (Key × V)}, RWd K R μ ks vs → (vs.any fun p => decide (p.1 = Sum.inr k)) = ks.any fun p => decide (p.1 = k)
  | _, _, .nil => rfl
  | (k', w') :: ks, _, .cons (v := v') h r => by
    have e : decide ((Sum.inr k' : Key) = Sum.inr k) = decide (k' = k) := by
      by_cases q : k' = k
      · subst q; simp
      · rw [decide_eq_false q, decide_eq_false fun z => q (Sum.inr.inj z)]
    show (decide ((Sum.inr k' : Key) = Sum.inr k) || _) = (decide (k' = k) || _)
    rw [e, RWd.any r]
theorem RWd.snoc {k : Str} {w : W} {v : V} (hv : RW K R μ w v) : ∀ {ks : List (Str × W)} {vs : List (Key × V)}, RWd K R μ ks vs → RWd K R μ (ks ++ [(k, w)]) (vs ++ [(Sum.inr k, v)])
  | _, _, .nil => .cons hv .nil
  | _, _, .cons h r => .cons h (RWd.snoc hv r)
theorem RWd.over {k : Str} {w : W} {v : V} (hv : RW K R μ w v) : ∀ {ks : List (Str × W)} {vs : List (Key × V)}, RWd K R μ ks vs → RWd K R μ (ks.map fun p => if p.1 = k then (p.1, w) else p) (vs.map fun p => if p.1 = Sum.inr k then (p.1, v) else p)
  | _, _, .nil => .nil
  | (k', w') :: ks, _, .cons (v := v') h r => by
    rw [List.map_cons, List.map_cons]
    by_cases q : k' = k
    · subst q
      rw [if_pos rfl, if_pos rfl]
      exact .cons hv (RWd.over hv r)
    · rw [if_neg q, if_neg fun z => q (Sum.inr.inj z)]
      exact .cons h (RWd.over hv r)
theorem RWd.put {k : Str} {w : W} {v : V} {ks : List (Str × W)} {vs : List (Key × V)} (r : RWd K R μ ks vs) (hv : RW K R μ w v) : RWd K R μ (putW ks k w) (putK vs (Sum.inr k) v) := by
  unfold putW putK
  rw [r.any]
  by_cases q : (ks.any fun p => decide (p.1 = k)) = true
  · rw [if_pos q, if_pos q]; exact r.over hv
  · rw [if_neg q, if_neg q]; exact r.snoc hv
theorem RWd.len {ks : List (Str × W)} {vs : List (Key × V)} (r : RWd K R μ ks vs) : ks.length = vs.length := by
  induction r with
  | nil => rfl
  | cons _ _ ih => simp [ih]
end
section
variable {X : Cx} {ec : Str → Addr} {Wx : WX} {E : XK} {pos p p2 pos' : Pos} {a b c e o i value : Expr} {es : List Expr} {fes : EvA} {fa fb fc : EvE}
/-- d[k] -/
def kDGet : W → W → Store → Res W := fun a k st => match a, k with
  | .obj j, .str k => (match st[j]? with
    | some (.D ks) => (match ks.lookup k with
      | some w => .ok w st
      | none => .bad)
    | _ => .bad)
  | _, _ => .bad
theorem pv_dget (hu : X.A.units + 1 < cLine) (ho : PV X ec Wx o fa) (hi : PV X ec Wx i fb) (hs : NoSl i) : PV X ec Wx (.Subscript o i pos) (e2 kDGet fa fb) :=
  (pe_dget hu ho hi hs).imp fun σ H Q ⟨R, μ, env, st, he, hh, hp⟩ => by
    refine ev_step he hh hp fun x st1 R1 μ1 H1 v q1 he1 ra hp1 => ?_
    refine ev_step he1 q1.h hp1 fun y st2 R2 μ2 H2 u q2 he2 rb hp2 => ?_
    unfold kDGet at hp2
    split at hp2
    · rename_i j k
      cases ra with
      | @obj _ ad ha =>
        cases rb
        split at hp2
        · rename_i ks e1
          split at hp2
          · rename_i w e2
            obtain ⟨vs, e3, rd⟩ := q2.h.at_ j ad _ (q2.g.m _ _ ha) e1
            obtain ⟨v, e4, rv⟩ := rd.val e2
            exact ⟨ad, v, rfl, .inl ⟨vs, Sum.inr k, .inl e3, rfl, e4.symm⟩, gv_now hp2 q2.h rv⟩
          · exact hp2.elim
        · exact hp2.elim
    · exact hp2.elim
/-- d[k] = v -/
def sDPutV (fd fk fv : EvE) : EvS := fun env st => (fv env st).bind fun w st1 => (fd env st1).bind fun a st2 => (fk env st2).bind fun k st3 => match a, k with
  | .obj j, .str k => (match st3[j]? with
    | some (.D ks) => if ks.length < 1000 then .ok (.nx env) (st3.set j (.D (putW ks k w))) else .bad
    | _ => .bad)
  | _, _ => .bad
theorem pv_dput (hu : X.A.units + 1 < cLine) (ho : PV X ec (wE E) o fa) (hi : PV X ec (wE E) i fb) (hv : PV X ec (wE E) value fc) (hs : swapsWith value (some (.Subscript o i pos')) pos.line X.env = pure false := by rfl) :
    PVS X ec E (.Assign [.Subscript o i pos'] value pos) (sDPutV fa fb fc) :=
  (ps_dput hu ho hi hv hs).imp fun D σ H ⟨R, μ, env, st, he, hh, hp⟩ => by
    refine ev_stepG he hh hp fun w st1 R1 μ1 H1 v q1 he1 rw1 hp1 => ?_
    refine ev_stepG he1 q1.h hp1 fun x st2 R2 μ2 H2 u q2 he2 ra hp2 => ?_
    refine ev_stepG he2 q2.h hp2 fun y st3 R3 μ3 H3 t q3 he3 rb hp3 => ?_
    split at hp3
    · rename_i j k
      cases ra with
      | @obj _ ad ha =>
        cases rb
        split at hp3
        · rename_i ks e1
          by_cases hz : ks.length < 1000
          · rw [if_pos hz] at hp3
            have hi3 := q3.g.m _ _ ha
            obtain ⟨vs, e3, rd⟩ := q3.h.at_ j ad _ hi3 e1
            refine ⟨ad, _, rfl, .inl ⟨vs, Sum.inr k, e3, rfl, by rw [← rd.len, sizeLine_eq]; omega, rfl⟩, ?_⟩
            have A := q3.h.setM (m := .D (putW ks k w)) hi3 e1 ⟨_, rfl, rd.put ((rw1.grow q2.g).grow q3.g)⟩
            exact hp3 _ _ _ A _ he3
          · rw [if_neg hz] at hp3; exact hp3.elim
        · exact hp3.elim
    · exact hp3.elim
/-- a display: the new dict stands there, empty, while the values are made -/
def mergeW : List (Str × W) → List (Str × W) → List (Str × W) := fun ks more => more.foldl (fun acc p => putW acc p.1 p.2) ks
def eDisp (ks : List Str) (f : EvA) : EvE := fun env st => (f env (st ++ [.D []])).bind fun ws st1 => match st1[st.length]? with
  | some (.D []) => if ws.length = ks.length then .ok (.obj st.length) (st1.set st.length (.D (mergeW [] (ks.zip ws)))) else .bad
  | _ => .bad
/-- the pairs of a display -/
structure PPV (X : Cx) (ec : Str → Addr) (Wx : WX) (pos : Pos) (keys : List (Option Expr)) (values : List Expr) (ks : List Str) (f : EvA) : Prop where
  go : ∃ trs, PPs X pos keys values trs ∧ ∀ (σ : L2.St) (H : Hp) (Q : List V → Hp → Prop) (Q' : List (V × V) → Hp → Prop), tAv X.K ec Wx f σ H Q → (∀ vs H2, vs.length = ks.length → Q vs H2 → Q' ((ks.zip vs).map fun p => (V.str p.1, p.2)) H2) → tPairs trs σ H Q'
theorem ppv_nil : PPV X ec Wx pos [] [] [] aNil := ⟨[], pps_nil, fun σ H Q Q' ⟨R, μ, env, st, he, hh, hp⟩ hq => hq [] H rfl (hp.now hh [] .nil)⟩
theorem ppv_cons {k : Str} {j : Nat} {pk : Pos} {v : Expr} {ks : List (Option Expr)} {vs : List Expr} {kz : List Str} (hv : PV X ec Wx v fa) (hr : PPV X ec Wx pos ks vs kz fes) : PPV X ec Wx pos (some (.Constant (.str k) j pk) :: ks) (v :: vs) (k :: kz) (aCons fa fes) := by
  obtain ⟨trs, h1, h2⟩ := hr.go
  refine ⟨(tC (.str k), _) :: trs, pps_cons pe_str hv h1, fun σ H Q Q' ⟨R, μ, env, st, he, hh, hp⟩ hq => ?_⟩
  refine ev_stepG he hh hp fun w st1 R1 μ1 H1 y q1 he1 r hp1 => ?_
  refine h2 σ H1 (fun us H2 => Q (y :: us) H2) _ (av_stepG he1 q1.h hp1 fun ws st2 R2 μ2 H2 us q2 he2 rs hp2 => hp2.now q2.h _ (.cons (r.grow q2.g) rs)) fun us H2 hl z => ?_
  exact hq (y :: us) H2 (by simp [hl]) z
theorem mergeW_rel {K : PySem.W.Frag} {R : Hp} {μ : List Addr} : ∀ (ks : List Str) {ws : List W} {vs : List V} {acc : List (Str × W)} {accV : List (Key × V)}, RWs K R μ ws vs → RWd K R μ acc accV →
    RWd K R μ (mergeW acc (ks.zip ws)) (mergeK accV ((ks.zip vs).map fun p => (Sum.inr p.1, p.2)))
  | [], _, _, _, _, _, r => r
  | _ :: _, _, _, _, _, .nil, r => r
  | k :: ks, _, _, _, _, .cons h rs, r => mergeW_rel ks rs (r.put h)
theorem pv_disp {keys : List (Option Expr)} {values : List Expr} {ks : List Str} (h : PPV X ec Wx pos keys values ks fes) (hall : keys.all (·.isSome) = true := by rfl) (hl : keys.length = values.length := by rfl) (h0 : keys ≠ [] := by simp)
    (h15 : keys.length ≤ 15 := by decide) (hk : ks.length ≤ 15 := by decide) : PV X ec Wx (.Dict keys values pos) (eDisp ks fes) := by
  obtain ⟨trs, h1, h2⟩ := h.go
  refine (pe_disp h1 hall hl h0 h15).imp fun σ H Q ⟨R, μ, env, st, he, hh, hp⟩ p hn => ?_
  have A0 := hh.newM (m := .D []) hn ⟨[], rfl, .nil⟩
  have hp0 := hp.seq0.from_ A0.since
  refine h2 σ _ (fun vs H2 => vs.length = ks.length → H2 p = some (.dK []) ∧ Q (.ref p) (upd H2 p (.dK (mergeK [] ((ks.zip vs).map fun q => (Sum.inr q.1, q.2)))))) _ ⟨R, _, env, _, he.grow A0.g, A0.h, hp0.mono fun ws st1 R1 μ1 H1 A1 q vs rs hl2 => ?_⟩ fun vs H2 hl2 z => ?_
  · obtain ⟨A01, _, hp1⟩ := q
    have hi : (μ ++ [p])[st.length]? = some p := by rw [← hh.len, List.getElem?_append_right (Nat.le_refl _)]; simp
    have hi1 := A1.g.m _ _ hi
    split at hp1
    · rename_i e1
      obtain ⟨us, e2, rd⟩ := A1.h.at_ _ p _ hi1 e1
      cases rd
      by_cases hz : ws.length = ks.length
      · rw [if_pos hz] at hp1
        refine ⟨e2, ?_⟩
        have A2 := A1.h.setM (m := .D (mergeW [] (ks.zip ws))) hi1 e1 ⟨_, rfl, mergeW_rel ks rs .nil⟩
        exact hp1 _ _ _ (A01.trans A2) _ (.obj hi1)
      · rw [if_neg hz] at hp1; exact hp1.elim
    · exact hp1.elim
  · obtain ⟨z1, z2⟩ := z hl2
    refine ⟨z1, (ks.zip vs).map fun q => (Sum.inr q.1, q.2), ?_, ?_, z2⟩
    · rw [List.map_map]; rfl
    · rw [List.length_map, List.length_zip]; omega
/-! ### slices of lists -/
abbrev EvO := Env' → Store → Res (Option Int)
def tOv (K : PySem.W.Frag) (ec : Str → Addr) (Wx : WX) (f : EvO) : TO := fun σ H Q => ∃ R μ env st, EnvR K R μ env σ ∧ HRel K R μ st H ∧ Post K ec R μ H (fun c d H' => Wx c d σ H') (fun o _ _ _ H' => Q o H') (f env st)
abbrev POV (X : Cx) (ec : Str → Addr) (Wx : WX) (e : Option Expr) (f : EvO) : Prop := PO X e (tOv X.K ec Wx f)
theorem PO.imp {X : Cx} {e : Option Expr} {t t' : TO} (h : PO X e t) (q : ∀ σ H Q, t' σ H Q → t σ H Q) : PO X e t' := ⟨fun pins s σ H Q I z => h.run pins s σ H Q I (q _ _ _ z)⟩
def oNo : EvO := fun _ st => .ok none st
def oI (f : EvE) : EvO := fun env st => (f env st).bind fun w st1 => match w with
  | .int i => .ok (some i) st1
  | _ => .bad
theorem pov_no : POV X ec Wx none oNo := PO.imp po_none fun σ H Q ⟨R, μ, env, st, he, hh, hp⟩ => hp.now hh
theorem pov_i (h : PV X ec Wx e fa) : POV X ec Wx (some e) (oI fa) := PO.imp (po_some h) fun σ H Q ⟨R, μ, env, st, he, hh, hp⟩ => ev_stepG he hh hp fun w st1 R1 μ1 H1 v q1 he1 r hp1 => by
  cases r with
  | int i => exact ⟨i, rfl, hp1.now q1.h⟩
  | _ => exact hp1.elim
def cutW (xs : List W) (lo hi : Option Int) : List W := (xs.drop (HT.sIx xs.length 0 lo)).take (HT.sIx xs.length xs.length hi - HT.sIx xs.length 0 lo)
def eSl (f : EvE) (l h : EvO) : EvE := fun env st => (f env st).bind fun a st1 => (l env st1).bind fun lo st2 => (h env st2).bind fun hi st3 => match lstOf st3 a with
  | some ws => .ok (.lst (cutW ws lo hi)) st3
  | none => .bad
theorem pv_slice {lo hi : Option Expr} {fl fh : EvO} (he : PV X ec Wx e fa) (hl : POV X ec Wx lo fl) (hu : POV X ec Wx hi fh) : PV X ec Wx (.Subscript e (.Slice lo hi none p2) pos) (eSl fa fl fh) :=
  (pe_slice sl_list he hl hu).imp fun σ H Q ⟨R, μ, env, st, he, hh, hp⟩ => by
    refine ev_stepG he hh hp fun w st1 R1 μ1 H1 v q1 he1 ra hp1 => ?_
    refine ⟨R1, μ1, env, st1, he1, q1.h, hp1.seq.mono fun lo st2 R2 μ2 H2 _ q2 => ?_⟩
    refine ⟨R2, μ2, env, st2, he1.grow q2.1.g, q2.1.h, q2.2.seq.mono fun hi st3 R3 μ3 H3 _ q3 => ?_⟩
    obtain ⟨q3, hp3⟩ := q3
    split at hp3
    · rename_i ws e1
      obtain ⟨ad, vs, rfl, hq, rs⟩ := lst_of q3.h ((ra.grow q2.1.g).grow q3.g) e1
      refine ⟨ad, vs, rfl, hq, fun p hn => ?_⟩
      have rc : RWs X.K R3 μ3 (cutW ws lo hi) (cutV vs lo hi) := by
        unfold cutW cutV
        rw [← rs.length]
        exact (rs.drop _).take _
      exact gv_lst hp3 q3.h rc hn
    · exact hp3.elim
/-! ### o[i] = .. of a list -/
def gIx (fo fi : EvE) : EvG := fun w env st => (fo env st).bind fun a st1 => (fi env st1).bind fun i st2 => match a, i with
  | .obj j, .int k => (match st2[j]? with
    | some (.L ws) => (match ixN ws.length k with
      | some m => .ok env (st2.set j (.L (ws.set m w)))
      | none => .bad)
    | _ => .bad)
  | _, _ => .bad
theorem pgv_ix (ho : PV X ec (wE E) o fa) (hi : PV X ec (wE E) i fb) (ha : ∀ v, assign (.Subscript o i pos) X.env v = (do
      let ov ← holding [v] (eval o X.env)
      let iv ← holding [v, ov] (eval i X.env)
      standAt pos
      holding [v, ov, iv] (setItem ov iv v)
      release [v, ov, iv] []) := by intro _; rfl) : PGV X ec E (.Subscript o i pos) (gIx fa fb) :=
  PG_imp (pg_sub ho hi set_list ha) fun v σ H Q ⟨R, μ, env, st, w, he, hh, hr, hp⟩ => by
    refine ev_stepG he hh hp fun x st1 R1 μ1 H1 u q1 he1 ra hp1 => ?_
    refine ev_stepG he1 q1.h hp1 fun y st2 R2 μ2 H2 t q2 he2 rb hp2 => ?_
    split at hp2
    · rename_i j k
      cases ra with
      | @obj _ ad hj =>
        cases rb
        split at hp2
        · rename_i ws e1
          split at hp2
          · rename_i m e2
            have hj2 := q2.g.m _ _ hj
            obtain ⟨vs, e3, rs⟩ := q2.h.at_ j ad _ hj2 e1
            refine ⟨ad, vs, k, m, rfl, rfl, e3, by rw [← rs.length]; exact e2, ?_⟩
            have A := q2.h.setM (m := .L (ws.set m w)) hj2 e1 ⟨vs.set m v, rfl, rs.set m ((hr.grow q1.g).grow q2.g)⟩
            exact hp2 _ _ _ A _ he2
          · exact hp2.elim
        · exact hp2.elim
    · exact hp2.elim
end
end Vl
end
section
set_option Elab.async false
set_option linter.all false
set_option maxRecDepth 100000
set_option maxHeartbeats 1000000
/-! V9: enumerate over a tuple. -/
namespace Vl
open PySem PySem.Spec PyProof.Rows L2
theorem en_made {v : Value} {o : Obj} {Hv : Heap → Prop} (B : Begins v o Hv) :
    Meets (Builtin.«enumerate.__new__» ⟨[.type "enumerate", v], []⟩) (fun _ R s => Hv s.heap ∧ R (.ok (.ret (.ref (s.heap.push o).objs.size))) { s with heap := (s.heap.push o).push { cls := .type "enumerate", data := .fields #[.none, .bool false, .ref s.heap.objs.size, rawInt 0, .none, .none] } }) :=
  .of_wp fun pr wo A R s hh => by
    obtain ⟨hp, gg, dd, tks, oo⟩ := s
    obtain ⟨hv, hr⟩ := hh
    have hsu := sub_enumerate
    have qi : ∀ {A' : Around} {E' : Value → Shared → Prop} {Q' : Value → Shared → Prop}, Q' (.ref hp.objs.size) ⟨hp.push o, gg, dd, tks, oo⟩ → wpAny (model pr wo) A' (pyIter v) Q' E' ⟨hp, gg, dd, tks, oo⟩ := fun z => B.iter pr wo _ _ ⟨hp, gg, dd, tks, oo⟩ _ hv z
    wp_walk using qi
    refine wpAny_stack_any fun _ => wpAny_pure ?_
    split
    · rename_i c' _ _ _ _ _
      cases (c' == Value.type "enumerate") <;> (wp_walk using qi; exact ⟨_, rfl, hr⟩)
    · wp_walk using qi
      exact ⟨_, rfl, hr⟩
section
variable {pr : Program} {wo : World} {A : Around} {E : Value → Shared → Prop} {s : Shared}
theorem en_call {v : Value} {o : Obj} {Hv : Heap → Prop} {Q : Value → Shared → Prop} (B : Begins v o Hv) (hv : Hv s.heap)
    (k : ∀ h', IsEnum h' (s.heap.objs.size + 1) s.heap.objs.size 0 .none → h'.get? s.heap.objs.size = some o → (∀ b ob, s.heap.get? b = some ob → h'.get? b = some ob) → Q (.ref (s.heap.objs.size + 1)) { s with heap := h' }) :
    wpAny (model pr wo) A (call (.type "enumerate") [v]) Q E s := by
  refine callType_new F.called_enumerate (by decide) (F.typeCall_enumerate_1 v) (F.newCall_enumerate_1 v) (fun ob => F.args_object_init_2 ob v) F.entry_enumerate_new (en_made B) ⟨hv, ?_⟩
  have sz : (s.heap.push o).objs.size = s.heap.objs.size + 1 := Heap.size_push ..
  show _ ∧ _
  rw [sz]
  have new : IsEnum ((s.heap.push o).push { cls := .type "enumerate", data := .fields #[.none, .bool false, .ref s.heap.objs.size, rawInt 0, .none, .none] }) (s.heap.objs.size + 1) s.heap.objs.size 0 .none := by
    have z := Heap.get?_push_size (s.heap.push o) (o := { cls := .type "enumerate", data := .fields #[.none, .bool false, .ref s.heap.objs.size, rawInt 0, .none, .none] }) rfl
    rw [sz] at z
    exact z
  exact ⟨⟨_, new, rfl⟩, k _ new (Heap.get?_push_of_some _ (Heap.get?_push_size _ B.free)) fun b ob z => Heap.get?_push_of_some _ (Heap.get?_push_of_some _ z)⟩
end
/-- the tuple at a, each item in a new pair -/
def Iten (K : PySem.W.Frag) (a : Addr) : It where
  go := fun i H => ∃ (xs : List V) (x : V), SqT K H a xs ∧ xs[i]? = some x
  yld := fun i H v H' => ∃ T x, v = .ref T ∧ H T = none ∧ H' = upd H T (.tup [.int (i : Nat), x]) ∧ ∀ xs, SqT K H a xs → xs[i]? = some x
  stop := fun i H => ∃ xs : List V, SqT K H a xs ∧ xs.length = i
theorem turn_en {P : Program} {w : World} {K : PySem.W.Frag} {elts : List Expr} {kk : Nat} {tpos : Pos} (a e it : Addr) :
    Turn P w K (.Tuple elts kk tpos) (Iten K a) [e, it] e (fun i h => (∃ old, IsEnum h e it ((i : Nat) : Int) old) ∧ h.IsTupleIter it a i ∧ e ≠ it) where
  mem := List.mem_cons_self ..
  self := fun A i s Q E st z => let ⟨⟨_, he⟩, _⟩ := st; wpAny_pyIter_enum he z
  obj := fun i h st b hb => by
    obtain ⟨⟨old, he⟩, ⟨o, ho, hc, hd⟩, _⟩ := st
    rcases List.mem_cons.mp hb with z | z
    · subst z; exact ⟨_, he, fun v y => nomatch y⟩
    · rw [List.mem_singleton.mp z]
      exact ⟨o, ho, fun v y => by rw [hd] at y; cases y⟩
  keep := fun i h h' st k => by
    obtain ⟨⟨old, he⟩, hi, hne⟩ := st
    exact ⟨⟨old, k e (by simp) _ he⟩, hi.at fun o y => k it (by simp) o y, hne⟩
  item := by
    intro X hP hw hK hc i pins s σ H E I hf st hg
    subst hP hw hK
    obtain ⟨⟨old, he⟩, hit, hne⟩ := st
    obtain ⟨xs, x, hq, hx⟩ := hg
    obtain ⟨its, rv, ht, hz⟩ := I.tuple hq
    obtain ⟨u, hu, ru⟩ := rv.get hx
    have bel : e < s.heap.objs.size := Heap.lt_size he
    have bil : it < s.heap.objs.size := by obtain ⟨_, y, _⟩ := hit; exact Heap.lt_size y
    obtain ⟨lt, hu2⟩ := List.getElem?_eq_some_iff.mp hu
    have hat : a ≠ it := fun z => by
      obtain ⟨o, ho, hcl, _⟩ := hit
      obtain ⟨o2, ho2, hcl2, _⟩ := ht
      rw [z, ho] at ho2
      cases ho2
      exact absurd (Value.type.inj (hcl.symm.trans hcl2)) (by decide)
    have hat2 : e ∉ [it, a] := fun z => by
      rcases List.mem_cons.mp z with z | z
      · exact hne z
      · obtain ⟨o2, ho2, hcl2, _⟩ := ht
        rw [← List.mem_singleton.mp z] at ho2
        rw [he] at ho2
        cases ho2
        exact absurd (Value.type.inj hcl2) (by decide)
    refine wpAny_pyNext_enum_itemC (Draws.tuple (A := X.A.in1) (I.ok.hd hc) it a hat its.toArray) he ⟨hit, ht⟩ (by simpa using lt) hne hat2 fun x' h' tk hx' ho hit' hT hsz hk => ?_
    have ex : x' = u := by
      have : its.toArray[i]? = some u := by simpa using hu
      rw [this] at hx'
      exact (Option.some.inj hx').symm
    subst ex
    refine ⟨_, rfl, wpAny_letOwnedTupleGo_enum (s := { s with heap := h', toks := tk + 1 }) ho fun h'' he' sb => ?_⟩
    have hT2 : h''.get? s.heap.objs.size = some { cls := .type "tuple", data := .seq #[.int i tk, x'] } := (sb.2 _ (Nat.ne_of_gt bel)).trans hT
    have new : ObjOk X.prog X.w (upd H s.heap.objs.size (.tup [.int (i : Nat), x])) h'' s.heap.objs.size (.tup [.int (i : Nat), x]) :=
      ⟨by show 2 ≤ sizeLine; decide, [.int i tk, x'], .cons ⟨_, rfl⟩ (.cons ru .nil), ⟨_, hT2, rfl, _, rfl⟩⟩
    have keepAll : ∀ b ob, b ∉ [e, it] → s.heap.get? b = some ob → h''.get? b = some ob := fun b ob hb y => by
      have n1 : b ≠ e := fun z => hb (by simp [z])
      have n2 : b ≠ it := fun z => hb (by simp [z])
      exact (sb.2 b n1).trans (hk b ob n1 n2 y)
    have I1 : Inv X pins σ (upd H s.heap.objs.size (.tup [.int (i : Nat), x])) { s with heap := h'', toks := tk + 1 } := I.turnedNew (ch := [e, it]) keepAll hf (Nat.le_refl _) new
    have ei : ((i + 1 : Nat) : Int) = (i : Int) + 1 := by omega
    refine ⟨.ref s.heap.objs.size, _, I1, rfl, ⟨_, x, rfl, I.hok.fresh (Nat.le_refl _), rfl, fun ys hy => ?_⟩, ⟨⟨x', by rw [ei]; exact he'⟩, hit'.1.at fun o y => (sb.2 it (Ne.symm hne)).trans y, hne⟩, fun b hb => ?_⟩
    · rw [I.tuple_inj hy hq]; exact hx
    · have hb' : b < s.heap.objs.size := by
        rcases List.mem_cons.mp hb with z | z
        · rw [z]; exact bel
        · rw [List.mem_singleton.mp z]; exact bil
      rw [upd_ne (Nat.ne_of_lt hb')]
      exact (hf b hb).1
  done := by
    intro X hP hw hK hc i pins s σ H E I hf st hg
    subst hP hw hK
    obtain ⟨⟨old, he⟩, hit, hne⟩ := st
    obtain ⟨xs, hq, hx⟩ := hg
    obtain ⟨its, rv, ht, hz⟩ := I.tuple hq
    obtain ⟨f0, f1, f2, f3, f4, f5⟩ := hf it (by simp)
    have hat : a ≠ it := fun z => by
      obtain ⟨o, ho, hcl, _⟩ := hit
      obtain ⟨o2, ho2, hcl2, _⟩ := ht
      rw [z, ho] at ho2
      cases ho2
      exact absurd (Value.type.inj (hcl.symm.trans hcl2)) (by decide)
    have hsz : its.toArray.size = i := by rw [List.size_toArray, ← rv.length]; exact hx
    exact wpAny_pyNext_enum_endD (Draws.tuple (A := X.A.in1) (I.ok.hd hc) it a hat its.toArray) he (by rw [hsz]; exact ⟨hit, ht⟩) fun h' eb => ⟨rfl, I.turned (t' := s.toks) (fun b o hb q => eb b o hb q) f0 f1 f3 f4 f5⟩
def iEn (K : PySem.W.Frag) (ta : TA) : TI := fun σ H R => ta σ H fun vs H1 => ∃ a xs, vs = [.ref a] ∧ SqT K H1 a xs ∧ R (Iten K a) H1
theorem pi_en {X : Cx} {e : Expr} {ta : TA} {p pos tpos : Pos} {elts : List Expr} {kk : Nat} (hg : Gl X "enumerate") (hm : X.mg "enumerate" = none) (ha : PA X [e] ta) (hs : starEach [e] X.env = [(false, eval e X.env)] := by rfl) :
    PI X (.Tuple elts kk tpos) (.Call (.Name "enumerate" p) [e] [] pos) (iEn X.K ta) := by
  refine ⟨fun pins s σ H R I hw => Call_ (ld_blt I hg hm boot_enumerate (PyProof.Rows.callWith_type1 (thn (ha.run pos pins s σ H _ I hw) fun us s1 ⟨vs, H1, I1, r1, q1⟩ => ?_) hs rfl))⟩
  obtain ⟨a, xs, ex, hq, q⟩ := q1
  subst ex
  cases r1 with
  | cons r rr =>
    cases rr
    cases r
    obtain ⟨its, rv, ht, hz⟩ := I1.tuple hq
    refine en_call (begins_tuple a its.toArray) ht fun h' he hit hk => wpAny_pyIter_enum he ?_
    have I2 : Inv X pins σ H1 { s1 with heap := h' } := I1.kept (t' := s1.toks) hk
    refine ⟨s1.heap.objs.size + 1, [s1.heap.objs.size + 1, s1.heap.objs.size], _, _, H1, rfl, I2, turn_en a (s1.heap.objs.size + 1) s1.heap.objs.size, ⟨⟨.none, he⟩, ⟨_, hit, rfl, rfl⟩, Nat.succ_ne_self _⟩, fun b hb => ?_, q⟩
    have hle : s1.heap.objs.size ≤ b := by
      rcases List.mem_cons.mp hb with z | z
      · rw [z]; exact Nat.le_add_right _ _
      · rw [List.mem_singleton.mp z]; exact Nat.le_refl _
    exact I1.fpOk hle (I1.hok.fresh hle)
/-- enumerate(t): pairs of a number and an item -/
def pairsW (ws : List W) : List W := ws.zipIdx.map fun p => .tup [.int (p.2 : Nat), p.1]
theorem pairsW_get {ws : List W} {i : Nat} {w : W} (h : (pairsW ws)[i]? = some w) : ∃ z, ws[i]? = some z ∧ w = .tup [.int (i : Nat), z] := by
  unfold pairsW at h
  rw [List.getElem?_map, List.getElem?_zipIdx] at h
  cases e : ws[i]? with
  | none => rw [e] at h; cases h
  | some z =>
    rw [e] at h
    refine ⟨z, rfl, ?_⟩
    have := Option.some.inj h
    simpa using this.symm
theorem pairsW_len (ws : List W) : (pairsW ws).length = ws.length := by unfold pairsW; simp
def iEnT (f : EvA) : EvI := fun env st => (f env st).bind fun ws st1 => match ws with
  | [.tup zs] => .ok (pairsW zs) st1
  | _ => .bad
theorem jok_en {K : PySem.W.Frag} {a : Addr} {R : Hp} {μ : List Addr} {ws : List W} {vs : List V} (h : SqT K R a vs) (r : RWs K R μ ws vs) : JOk K (Iten K a) (pairsW ws) R μ := by
  have up : ∀ (R' : Hp) (μ' : List Addr) (st : Store) (H : Hp), Grow R μ R' μ' → HRel K R' μ' st H → SqT K H a vs := fun R' μ' st H g hh => sqT_mono hh.sub (sqT_mono g.r h)
  exact {
    go := fun R' μ' st H i w g hh e => by
      obtain ⟨z, e1, _⟩ := pairsW_get e
      obtain ⟨v, e2, _⟩ := r.get e1
      exact ⟨vs, v, up R' μ' st H g hh, e2⟩
    yld := fun R' μ' st H i w x H' g hh e y => by
      obtain ⟨T, v, rfl, hT, rfl, hy⟩ := y
      obtain ⟨z, e1, rfl⟩ := pairsW_get e
      obtain ⟨v2, e2, r2⟩ := r.get e1
      have e3 := hy vs (up R' μ' st H g hh)
      rw [e2] at e3
      cases e3
      have A := hh.newR hT (.tup [.int (i : Nat), v])
      exact ⟨_, A, .tup (.of upd_same) (.cons (.int _) (.cons ((r2.grow g).grow A.g) .nil))⟩
    stop := fun R' μ' st H g hh => ⟨vs, up R' μ' st H g hh, by rw [pairsW_len, r.length]⟩ }
theorem piv_en {X : Cx} {ec : Str → Addr} {Wx : WX} {e : Expr} {fes : EvA} {p pos tpos : Pos} {elts : List Expr} {kk : Nat} (hg : Gl X "enumerate") (hm : X.mg "enumerate" = none) (ha : PAV X ec Wx [e] fes) (hs : starEach [e] X.env = [(false, eval e X.env)] := by rfl) :
    PIV X ec Wx (.Tuple elts kk tpos) (.Call (.Name "enumerate" p) [e] [] pos) (iEnT fes) :=
  PI_imp (pi_en hg hm ha hs) fun σ H Q ⟨R, μ, env, st, he, hh, hp⟩ => av_stepG he hh hp fun ws st1 R1 μ1 H1 vs q1 he1 rs hp1 => by
    split at hp1
    · rename_i zs
      cases rs with
      | cons r rr =>
        cases rr
        cases r with
        | @tup a us _ hq qs => exact ⟨a, us, rfl, sqT_mono q1.h.sub hq, hp1.now q1.h _ (jok_en hq qs)⟩
    · exact hp1.elim
end Vl
end
section
set_option Elab.async false
set_option linter.all false
set_option maxRecDepth 100000
set_option maxHeartbeats 1000000
/-! V10: a list unpacked, three stores at once, texts and tuples repeated. -/
namespace Vl
open PySem PySem.Spec PyProof.Rows L2
/-! ### (a, b, ..) = a list of so many -/
def gLis (K : PySem.W.Frag) (n : Nat) (t : TGs) : TG := fun v σ H Q => ∃ a xs, v = .ref a ∧ SqL K H a xs ∧ xs.length = n ∧ t xs σ H Q
theorem pg_lis {X : Cx} {es : List Expr} {k : Nat} {t : TGs} {n : Nat} {pos : Pos} (hc : X.calm = true) (h : PGs X es t) (hn : (assignEach es X.env).length = n := by rfl) (hst : (assignEach es X.env).findIdx? (·.1) = none := by rfl) : PG X (.Tuple es k pos) (gLis X.K n t) := by
  refine ⟨fun pins s σ H v u Q I r ⟨a, xs, e1, hq, hl, hw⟩ => ?_⟩
  subst e1
  cases r
  obtain ⟨its, rv, ht, hz⟩ := I.list hq
  have hlen : (assignEach es X.env).length = its.toArray.size := by rw [hn, List.size_toArray, ← rv.length]; exact hl.symm
  rw [assign_Tuple]
  refine wpAny_bind (wpAny_standAt ?_)
  unfold unpack
  rw [hst, hlen]
  refine wpAny_bind (wpAny_holding (PySem.W.kun_itemsOf (I.ok.hd hc) ht.isList fun h' hx => ?_))
  have I1 : Inv X pins σ H { s with heap := h' } := I.kept (t' := s.toks) fun b o e => hx b o (Nat.ne_of_lt (Heap.lt_size e)) e
  exact h.run pins _ σ H xs _ Q I1 (by simpa using rv) hw
def gL (n : Nat) (g : EvGs) : EvG := fun w env st => match lstOf st w with
  | some ws => if ws.length = n then g ws env st else .bad
  | none => .bad
section
variable {X : Cx} {ec : Str → Addr} {Wx : WX} {E : XK} {pos p p2 pos' : Pos} {a b c e o i value : Expr} {es : List Expr} {fes : EvA} {fa fb fc : EvE}
theorem pgv_lis {k n : Nat} {g : EvGs} (hc : X.calm = true) (h : PGVs X ec E es g) (hn : (assignEach es X.env).length = n := by rfl) (hst : (assignEach es X.env).findIdx? (·.1) = none := by rfl) : PGV X ec E (.Tuple es k pos) (gL n g) :=
  PG_imp (pg_lis (k := k) hc h hn hst) fun v σ H Q ⟨R, μ, env, st, w, he, hh, hr, hp⟩ => by
    unfold gL at hp
    split at hp
    · rename_i ws e1
      obtain ⟨ad, vs, rfl, hq, rs⟩ := lst_of hh hr e1
      by_cases hz : ws.length = n
      · rw [if_pos hz] at hp
        exact ⟨ad, vs, rfl, hq, by rw [← rs.length]; exact hz, R, μ, env, st, ws, he, hh, rs, hp⟩
      · rw [if_neg hz] at hp; exact hp.elim
    · exact hp.elim
/-! ### a, b, c = x, y, z -/
def sPar3 (i j l : Nat) (f : EvA) : EvS := fun env st => (f env st).bind fun ws st1 => match ws with
  | [w, z, y] => .ok (.nx (((env.set i (some w)).set j (some z)).set l (some y))) st1
  | _ => .bad
theorem pv_par3 {i j l : Nat} {x y z : Str} {px py pz pt : Pos} {kt k2 : Nat} {pt2 : Pos} (hc : X.calm = true) (hN : X.N.Nodup) (hi : X.N[i]? = some x) (hj : X.N[j]? = some y) (hl : X.N[l]? = some z) (hij : i ≠ j) (hil : i ≠ l) (hjl : j ≠ l)
    (hx : X.env.scope.names.lookup x = some .local) (hy : X.env.scope.names.lookup y = some .local) (hz : X.env.scope.names.lookup z = some .local) (ha : PAV X ec (wE E) [a, b, c] fes)
    (hw : swappedStores [.Tuple [.Name x px, .Name y py, .Name z pz] kt pt] (.Tuple [a, b, c] k2 pt2) X.env = pure (some [x, y, z]))
    (hs : swapsWithSole [.Tuple [.Name x px, .Name y py, .Name z pz] kt pt] (.Tuple [a, b, c] k2 pt2) pos.line X.env = pure false := by rfl) : PVS X ec E (.Assign [.Tuple [.Name x px, .Name y py, .Name z pz] kt pt] (.Tuple [a, b, c] k2 pt2) pos) (sPar3 i j l fes) :=
  (ps_par3 hc hN hi hj hl hij hil hjl hx hy hz ha hw hs).imp fun D σ H ⟨R, μ, env, st, he, hh, hp⟩ => av_stepG he hh hp fun ws st1 R1 μ1 H1 vs q1 he1 r hp1 => by
    match ws, r, hp1 with
    | [w, z, y], .cons r1 (.cons r2 (.cons r3 .nil)), hp1 => exact ⟨_, _, _, rfl, hp1.now q1.h _ (((he1.set r1 i).set r2 j).set r3 l)⟩
    | [], _, hp1 => exact hp1.elim
    | [_], _, hp1 => exact hp1.elim
    | [_, _], _, hp1 => exact hp1.elim
    | _ :: _ :: _ :: _ :: _, _, hp1 => exact hp1.elim
end
/-! ### a text so many times -/
def repS (n : Int) (x : Str) : Str := if n < 1 then Str.empty else if (n == 1 || x.length == 0) = true then x else ⟨(List.replicate n.toNat x.cps).foldl (· ++ ·) #[]⟩
def rRepS : R2 := fun x y H Q => ∃ z n, x = .str z ∧ y = .int n ∧ z.length ≤ 1000 ∧ -1000 ≤ n ∧ n ≤ 1000 ∧ Q (.str (repS n z)) H
theorem foldl_cps : ∀ (m : Nat) (x acc : Array Nat), ((List.replicate m x).foldl (· ++ ·) acc).size = acc.size + m * x.size
  | 0, x, acc => by simp
  | m + 1, x, acc => by
    rw [List.replicate_succ, List.foldl_cons, foldl_cps m x (acc ++ x), Array.size_append, Nat.succ_mul]; omega
theorem op_repS {X : Cx} : OpR X (binaryOp .Mult) rRepS := by
  intro pins s σ H x y v u Q I rx ry ⟨z, n, ex, ey, hz, h1, h2, q⟩
  subst ex ey
  obtain ⟨t, rfl⟩ : ∃ t, v = Value.str z t := rx
  obtain ⟨t2, rfl⟩ : ∃ t, u = Value.int n t := ry
  have big : sizeLine ≥ 1000000 := by rw [sizeLine_eq]; decide
  have hmul : z.length * n.toNat ≤ 1000 * 1000 := Nat.mul_le_mul hz (by omega)
  have hlong : Builtin.Str.tooLong (z.length * n.toNat) = false := decide_eq_false (by omega)
  refine P.mul_str ?_ (fun g1 _ => ?_) (fun _ _ => hlong) ?_
  · rw [decide_eq_false (by omega), decide_eq_false (by omega)]; rfl
  · have m1 : (z.length : Int) * n ≤ 1000 * 1000 := Int.mul_le_mul (by omega) h2 (by omega) (by omega)
    have := (Int.le_ediv_iff_mul_le (a := (z.length : Int)) (b := 2 ^ 63 - 1) (show 0 < n by omega)).mpr (by omega)
    omega
  · unfold repS at q
    by_cases hn : n < 1
    · rw [if_pos hn] at q ⊢
      exact ⟨by decide, ⟨V.str Str.empty, H, I.tok _, ⟨_, rfl⟩, q⟩⟩
    · rw [if_neg hn] at q ⊢
      by_cases he : (n == 1 || z.length == 0) = true
      · rw [if_pos he] at q ⊢
        exact ⟨V.str z, H, I, ⟨_, rfl⟩, q⟩
      · rw [if_neg he] at q ⊢
        refine ⟨?_, ⟨V.str ⟨(List.replicate n.toNat z.cps).foldl (· ++ ·) #[]⟩, H, I.tok _, ⟨_, rfl⟩, q⟩⟩
        have e1 := foldl_cps n.toNat z.cps #[]
        show Array.size (List.foldl (· ++ ·) #[] (List.replicate n.toNat z.cps)) ≤ sizeLine
        have e2 : n.toNat * z.cps.size ≤ 1000 * 1000 := Nat.mul_le_mul (by omega) hz
        have e3 : (#[] : Array Nat).size = 0 := rfl
        rw [e1]
        omega
def kRepS : W → W → Store → Res W := fun a b st => match a, b with
  | .str z, .int n => if z.length ≤ 1000 ∧ -1000 ≤ n ∧ n ≤ 1000 then .ok (.str (repS n z)) st else .bad
  | _, _ => .bad
theorem sem_repS {K : PySem.W.Frag} : Sem2 K rRepS kRepS := fun ec R μ st H E Q a b x y hh ra rb hp => by
  unfold kRepS at hp
  split at hp
  · rename_i z n
    cases ra; cases rb
    by_cases hz : z.length ≤ 1000 ∧ -1000 ≤ n ∧ n ≤ 1000
    · rw [if_pos hz] at hp
      exact ⟨z, n, rfl, rfl, hz.1, hz.2.1, hz.2.2, gv_now hp hh (.str _)⟩
    · rw [if_neg hz] at hp; exact hp.elim
  · exact hp.elim
/-! ### a tuple so many times -/
theorem tup_mul_one (l : Addr) (items : Array Value) (n : Nat) (dd : Option Addr) (sl : Array (Option Value)) (u : Tok) :
    Meets (Builtin.«tuple.__mul__» ⟨[.ref l, .int 1 u], []⟩) (fun _ R s => s.heap.get? l = some { cls := .type "tuple", dict := dd, data := .seq items n, slots := sl } ∧ R (.ok (.ret (Value.ref l))) s) :=
  .of_wp fun pr wo A R s hh => by
    obtain ⟨hp, gg, dd', tks, oo⟩ := s
    obtain ⟨hl, hr⟩ := hh
    have fi := AutoSeq1.idx_int
    have c1 : (items.isEmpty || (1 : Int) == 1) = true := by simp
    wp_walk using wpAny_loadPart' hl
    exact ⟨_, rfl, hr⟩
def rRepT1 (K : PySem.W.Frag) : R2 := fun x y H Q => ∃ l xs, x = .ref l ∧ y = .int 1 ∧ SqT K H l xs ∧ Q (.ref l) H
theorem op_repT1 {X : Cx} : OpR X (binaryOp .Mult) (rRepT1 X.K) := by
  intro pins s σ H x y v u Q I rx ry ⟨l, xs, ex, ey, hT, q⟩
  subst ex ey
  cases rx
  obtain ⟨t, rfl⟩ := ry
  obtain ⟨its, r, ⟨⟨cls, dd, data, sl⟩, ho, hc, n, hd⟩, hs⟩ := I.tuple hT
  simp only at hc hd
  subst hc hd
  exact wpAny_binaryOp_repeat_ref (T := "tuple") (U := "int") (by decide) ⟨_, ho, rfl⟩ (fun s' => typeIs_int s' 1 t) noFill_tuple_mul F.fills_int_mul F.slot_int_rmul repeat_tuple F.slot_int_index.lookup
    (call_meets F.slot_int_rmul (typeIs_int s 1 t) F.entry_int_rmul (F.args_int_rmul_2 _ _) (int_rmul_tuple 1 t l its.toArray n dd sl)
      ⟨ho, rfl, ⟨_, ho, rfl⟩, call_meets F.slot_tuple_mul ⟨_, ho, rfl⟩ F.entry_tuple_mul (F.args_tuple_mul_2 _ _) (tup_mul_one l its.toArray n dd sl t) ⟨ho, .ref l, H, I, rfl, q⟩⟩)
theorem OpR.or2 {X : Cx} {op : Value → Value → Sem Value} {r r' : R2} (h : OpR X op r) (h' : OpR X op r') : OpR X op (fun x y H Q => r x y H Q ∨ r' x y H Q) := by
  intro pins s σ H x y v u Q I rx ry z
  rcases z with z | z
  · exact h pins s σ H x y v u Q I rx ry z
  · exact h' pins s σ H x y v u Q I rx ry z
def kRepT : W → W → Store → Res W := fun a b st => match a, b with
  | .tup ws, .int n => if n = 1 then .ok (.tup ws) st else if ws.isEmpty = false ∧ ws.length ≤ 1000 ∧ 2 ≤ n ∧ n ≤ 1000 then .ok (.tup (List.replicate n.toNat ws).flatten) st else .bad
  | _, _ => .bad
theorem RWs.rep {K : PySem.W.Frag} {R : Hp} {μ : List Addr} {ws : List W} {vs : List V} (r : RWs K R μ ws vs) : ∀ n : Nat, RWs K R μ (List.replicate n ws).flatten (List.replicate n vs).flatten
  | 0 => .nil
  | n + 1 => by
    rw [List.replicate_succ, List.replicate_succ, List.flatten_cons, List.flatten_cons]
    exact r.append (RWs.rep r n)
theorem sem_repT {K : PySem.W.Frag} : Sem2 K (fun x y H Q => rRepT1 K x y H Q ∨ rRepT K x y H Q) kRepT := fun ec R μ st H E Q a b x y hh ra rb hp => by
  unfold kRepT at hp
  split at hp
  · rename_i ws n
    cases rb
    cases ra with
    | @tup ad vs _ ha rs =>
      by_cases h1 : n = 1
      · rw [if_pos h1] at hp
        subst h1
        exact .inl ⟨ad, vs, rfl, rfl, sqT_mono hh.sub ha, gv_now hp hh (.tup ha rs)⟩
      · rw [if_neg h1] at hp
        by_cases hz : ws.isEmpty = false ∧ ws.length ≤ 1000 ∧ 2 ≤ n ∧ n ≤ 1000
        · rw [if_pos hz] at hp
          refine .inr ⟨ad, n, vs, rfl, rfl, sqT_mono hh.sub ha, fun e => ?_, hz.2.2.1, hz.2.2.2, by rw [← rs.length]; exact hz.2.1, fun p hn => gv_tup hp hh (rs.rep _) hn⟩
          have e' := rs.nil_iff.mp e
          rw [e'] at hz
          cases hz.1
        · rw [if_neg hz] at hp; exact hp.elim
  · exact hp.elim
end Vl
end
section
set_option Elab.async false
set_option linter.all false
set_option maxRecDepth 100000
set_option maxHeartbeats 4000000
/-! V11: set(list of ints), its length, sorted. -/
namespace Vl
open PySem PySem.Spec PyProof.Rows L2
abbrev noneIn (w : World) : Obj := { cls := .type "set", dict := none, data := .set #[] 0 (.fresh 0 0 (!w.params.followText "set-order")) }
section
variable {P : Program} {w : World} {A : Around} {E : Value → Shared → Prop} {s : Shared}
theorem set_of_list {l : Addr} {its : Array Value} (ns : List Int) {Q : Value → Shared → Prop} (hd : A.handled = none) (hl : s.heap.IsList l its) (hit : IntsAre its.toList ns) (hb : ns.length + 1 < scanBound)
    (fin : ∀ (h' : Heap) (tk c : Nat), SetR w h' s.heap.objs.size (fun j => decide (j ∈ ns)) c → c ≤ ns.length → (∀ b o, s.heap.get? b = some o → h'.get? b = some o) → Q (.ref s.heap.objs.size) { s with heap := h', toks := tk }) :
    wpAny (model P w) A (call (.type "set") [.ref l]) Q E s := by
  have lenI : its.size = ns.length := by have z := IntsAre.length hit; rwa [Array.length_toList] at z
  obtain ⟨c0, t0, mro0⟩ := F.called_set.mro
  have made0 := F.called_set.made
  have sub0 := F.called_set.sub
  refine wpAny_call (codeAny_of_tree ?_)
  show wpAny _ _ (callAny (.type "set") _) _ _ _
  refine wpAny_pure ⟨Code.quiet_builtin _ (by decide +kernel), codeAny_builtin F.entry_type_call ?_⟩
  rw [Around.under_plain (weight_type_call_type "set" [.ref l] []) rfl]
  have g1 := F.called_set.notType
  have g2 := F.called_set.canCreate
  have g3 := F.typeCall_set_1 (.ref l)
  repeat (any_goals (first | assumption | wp_step))
  refine codeAny_mono (code_set_led1 (.ref l) (E := E) (Q₁ := fun u s1 => u = .ref s.heap.objs.size ∧ s1 = { s with heap := s.heap.push (noneIn w) }) ⟨rfl, rfl⟩) fun r s1 hr => ?_
  match r, hr with
  | .error e, hr => exact hr
  | .ok (.ret u), hr =>
    obtain ⟨rfl, rfl⟩ := hr
    have here : (s.heap.push (noneIn w)).get? s.heap.objs.size = some (noneIn w) := Heap.get?_push_size _ rfl
    have ty0 : Shared.TypeIs { s with heap := s.heap.push (noneIn w) } (.ref s.heap.objs.size) "set" := ⟨_, here, rfl⟩
    have in0 := F.called_set.init.lookup
    have in1 := F.called_set.init.bind (.ref s.heap.objs.size)
    repeat (any_goals (first | assumption | wp_step))
    refine codeAny_mono (codeAny_call_builtin (R := wants (fun r s2 => r = .none ∧ ∃ h' tk c, s2 = { s with heap := h', toks := tk } ∧ SetR w h' s.heap.objs.size (fun j => decide (j ∈ ns)) c ∧ c ≤ ns.length ∧ (∀ b o, s.heap.get? b = some o → h'.get? b = some o)) E) F.called_set.init.plain F.entry_set_init (check_set_init_1 ty0 ?_)) fun r2 s2 hr2 => ?_
    · obtain ⟨⟨oc, od, oda, osl⟩, hol, hcl, nl, hdl⟩ := hl
      simp only at hcl hdl
      subst hcl hdl
      have hol1 : (s.heap.push (noneIn w)).get? l = some { cls := .type "list", dict := od, data := .seq its nl, slots := osl } := Heap.get?_push_of_some _ hol
      have u1 := F.sub_list_set
      have u2 := F.sub_list_frozenset
      have u3 : (Value.type "list" == Value.type "dict") = false := by decide
      have hl1 : (s.heap.push (noneIn w)).IsList l its := ⟨_, hol1, rfl, nl, rfl⟩
      unfold Builtin.«set.__init__» noKeywords Builtin.Frozenset.updateFrom
      generalize hPi : pyIter = Pi0
      wp_walk
      subst hPi
      refine wpAny_pyIter_list hl1 ?_
      refine wpAny_bind (wpAny_runValue ?_)
      have lt0 : l < s.heap.objs.size := Heap.lt_size hol
      have hd3 : A.in1.in1.in1.handled = none := by simp [hd]
      have sz1 : (s.heap.push (noneIn w)).objs.size = s.heap.objs.size + 1 := Heap.size_push ..
      have ne1 : l ≠ (s.heap.push (noneIn w)).objs.size := by rw [sz1]; exact Nat.ne_of_lt (Nat.lt_succ_of_lt lt0)
      have nf : s.heap.objs.size ∉ [(s.heap.push (noneIn w)).objs.size, l] := by
        rw [sz1]
        intro z
        rcases List.mem_cons.mp z with z | z
        · exact absurd z (Nat.ne_of_lt (Nat.lt_succ_self _))
        · exact absurd (List.mem_singleton.mp z) (Nat.ne_of_gt lt0)
      have vals : ∀ (i : Nat) (v : Value), its[i]? = some v → ∃ k t, ns[i]? = some k ∧ v = .int k t := fun i v hv => by
        have lt1 : i < ns.length := by rw [← lenI]; exact (Array.getElem?_eq_some_iff.mp hv).1
        obtain ⟨t, e⟩ := PyProof.Rows.IntsAre.int_at hit i v (by rw [Array.getElem?_toList]; exact hv)
        refine ⟨ns[i], t, List.getElem?_eq_getElem lt1, ?_⟩
        rw [e, List.getD_eq_getElem?_getD, List.getElem?_eq_getElem lt1] <;> rfl
      refine set_update_ints ((Walks.list hd3 _ l ne1 its).toS) s.heap.objs.size nf ns lenI hb vals (its.size - 0) 0 _ (by omega) (Nat.zero_le _) ⟨⟨_, Heap.get?_push_size _ rfl, rfl, rfl⟩, (hl1.push _)⟩ ?start ?stop
      case start =>
        have z : ((s.heap.push (noneIn w)).push { cls := .type "list_iterator", data := .fields #[.ref l, .int 0 0] }).get? s.heap.objs.size = some (noneIn w) := Heap.get?_push_of_some _ here
        exact ⟨0, Nat.le_refl 0, setR_new_at z⟩
      case stop =>
        rintro ⟨h', gg, dd, tk', oo⟩ c' hm hc' hS'
        have eg : gg = s.gens := hm.gens
        have ed : dd = s.drawn := hm.drawn
        have eo : oo = s.os := hm.os
        subst eg ed eo
        show wpAny _ _ _ _ _ _
        refine wpAny_pure ?_
        show wpAny _ _ (ret Value.none) _ _ _
        rw [lenI] at hc'
        refine wpAny_pure ⟨rfl, h', tk', c', rfl, hS', hc', fun b o e => ?_⟩
        have b0 : b < s.heap.objs.size := Heap.lt_size e
        refine hm.heap b o (fun z => ?_) (Heap.get?_push_of_some _ (Heap.get?_push_of_some _ e))
        rcases List.mem_cons.mp z with z | z
        · exact absurd z (Nat.ne_of_lt b0)
        · rw [List.mem_singleton.mp z, sz1] at b0
          exact absurd b0 (Nat.not_lt.mpr (Nat.le_succ _))
    · match r2, hr2 with
      | .error e, hr2 => exact hr2
      | .ok (.ret u), hr2 =>
        obtain ⟨rfl, h', tk, c', rfl, hS', hc', hk'⟩ := hr2
        repeat (any_goals (first | assumption | wp_step))
        exact fin _ _ _ hS' hc' hk'
end
end Vl
end
section
set_option Elab.async false
set_option linter.all false
set_option maxRecDepth 100000
set_option maxHeartbeats 1000000
/-! V12: len(set(list of ints)), sorted(set(list of ints)). -/
namespace Vl
open PySem PySem.Spec PyProof.Rows L2
/-- in its place, once -/
def putI (k : Int) : List Int → List Int
  | [] => [k]
  | x :: xs => if k < x then k :: x :: xs else if k = x then x :: xs else x :: putI k xs
def sortI (ns : List Int) : List Int := ns.foldr putI []
theorem mem_putI {k j : Int} : ∀ {xs : List Int}, j ∈ putI k xs ↔ j = k ∨ j ∈ xs
  | [] => by simp [putI]
  | x :: xs => by
    unfold putI
    split
    · simp
    · split
      · rename_i h; subst h; simp
      · rw [List.mem_cons, mem_putI, List.mem_cons]
        constructor
        · rintro (h | h | h)
          · exact .inr (.inl h)
          · exact .inl h
          · exact .inr (.inr h)
        · rintro (h | h | h)
          · exact .inr (.inl h)
          · exact .inl h
          · exact .inr (.inr h)
theorem asc_putI {k : Int} : ∀ {xs : List Int}, xs.Pairwise (· < ·) → (putI k xs).Pairwise (· < ·)
  | [], _ => by simp [putI]
  | x :: xs, h => by
    obtain ⟨h1, h2⟩ := List.pairwise_cons.mp h
    unfold putI
    split
    · rename_i hk
      refine List.pairwise_cons.mpr ⟨fun y hy => ?_, h⟩
      rcases List.mem_cons.mp hy with z | z
      · omega
      · have := h1 y z; omega
    · split
      · exact h
      · refine List.pairwise_cons.mpr ⟨fun y hy => ?_, asc_putI h2⟩
        rcases mem_putI.mp hy with z | z
        · omega
        · exact h1 y z
theorem mem_sortI {j : Int} : ∀ {ns : List Int}, j ∈ sortI ns ↔ j ∈ ns
  | [] => by simp [sortI]
  | n :: ns => by
    show j ∈ putI n (sortI ns) ↔ _
    rw [mem_putI, mem_sortI, List.mem_cons]
theorem asc_sortI : ∀ {ns : List Int}, (sortI ns).Pairwise (· < ·)
  | [] => .nil
  | n :: ns => asc_putI (xs := sortI ns) asc_sortI
theorem asc_one : ∀ {a b : List Int}, a.Pairwise (· < ·) → b.Pairwise (· < ·) → (∀ k, k ∈ a ↔ k ∈ b) → a = b
  | [], [], _, _, _ => rfl
  | [], y :: b, _, _, h => absurd ((h y).mpr (List.mem_cons_self ..)) (by simp)
  | x :: a, [], _, _, h => absurd ((h x).mp (List.mem_cons_self ..)) (by simp)
  | x :: a, y :: b, ha, hb, h => by
    obtain ⟨a1, a2⟩ := List.pairwise_cons.mp ha
    obtain ⟨b1, b2⟩ := List.pairwise_cons.mp hb
    have e : x = y := by
      rcases List.mem_cons.mp ((h x).mp (List.mem_cons_self ..)) with z | z
      · exact z
      · rcases List.mem_cons.mp ((h y).mpr (List.mem_cons_self ..)) with q | q
        · exact q.symm
        · have := a1 y q; have := b1 x z; omega
    subst e
    rw [asc_one a2 b2 fun k => ?_]
    constructor
    · intro hk
      rcases List.mem_cons.mp ((h k).mp (List.mem_cons_of_mem _ hk)) with z | z
      · have := a1 k hk; omega
      · exact z
    · intro hk
      rcases List.mem_cons.mp ((h k).mpr (List.mem_cons_of_mem _ hk)) with z | z
      · have := b1 k hk; omega
      · exact z
theorem nodup_asc {a : List Int} (h : a.Pairwise (· < ·)) : a.Nodup := List.Pairwise.imp (fun {x y} q => (by omega : x ≠ y)) h
theorem len_one {a b : List Int} (ha : a.Nodup) (hb : b.Nodup) (h : ∀ k, k ∈ a ↔ k ∈ b) : a.length = b.length := ((List.perm_ext_iff_of_nodup ha hb).mpr fun k => h k).length_eq
section
variable {X : Cx}
def rSetL (K : PySem.W.Frag) (w : World) : List V → Hp → VK → Prop := fun xs H Q => ∃ (l : Addr) (ns : List Int), xs = [.ref l] ∧ SqL K H l (ns.map V.int) ∧ ns.length ≤ 1000 ∧ ∀ p, H p = none → Q (.ref p) (upd H p (SetO w p (fun j => decide (j ∈ ns)) (sortI ns).length))
theorem call_setL (hc : X.calm = true) : CallR X (.type "set") (rSetL X.K X.w) := by
  intro pins s σ H xs us Q I r ⟨l, ns, ex, hq, hz, q⟩
  subst ex
  rw [Vals.ref1 r]
  obtain ⟨its, rv, ht, _⟩ := I.list hq
  refine set_of_list ns (I.ok.hd hc) ht.isList (by simpa using ints_of_vals rv) (by unfold scanBound; omega) fun h' tk c R hc' hk => ?_
  have ec : c = (sortI ns).length := by
    obtain ⟨o, es, ep, t, _, _, _, _, nd, mem, _, _, hn, _⟩ := R
    have z := len_one nd (nodup_asc (asc_sortI (ns := ns))) fun k => by
      rw [← mem k, decide_eq_true_iff, mem_sortI]
    rw [List.length_map, Array.length_toList, hn] at z
    exact z
  rw [ec] at R
  exact ⟨.ref s.heap.objs.size, upd H s.heap.objs.size (SetO X.w s.heap.objs.size (fun j => decide (j ∈ ns)) (sortI ns).length), I.laid (t' := tk) hk (Nat.le_refl _) (setO_new R), rfl, q _ (I.hok.fresh (Nat.le_refl _))⟩
def rLenSet (w : World) : List V → Hp → VK → Prop := fun xs H Q => ∃ (a : Addr) (S : Int → Bool) (n : Nat), xs = [.ref a] ∧ H a = some (SetO w a S n) ∧ ∀ ks : List Int, ks.Nodup → (∀ k, S k = true ↔ k ∈ ks) → Q (.int (ks.length : Nat)) H
theorem call_lenSet : CallR X (.builtin "len") (rLenSet X.w) := by
  intro pins s σ H xs us Q I r ⟨a, S, n, ex, ha, q⟩
  subst ex
  rw [Vals.ref1 r]
  obtain ⟨o, es, ep, t, ho, hex, hd, _, nd, mem, hsz, hf, hn, _⟩ := setO_get I ha
  refine call_len_set ho hex hd hf (by unfold scanBound at hsz; omega) ?_
  have z := q (es.toList.map keyOf) nd mem
  rw [List.length_map, Array.length_toList] at z
  exact ⟨V.int (es.size : Nat), H, I.tok _, ⟨_, rfl⟩, z⟩
end
/-- ints in a row -/
def intsOf : List W → Option (List Int)
  | [] => some []
  | .int i :: ws => (intsOf ws).map (i :: ·)
  | _ => none
theorem ints_of {K : PySem.W.Frag} {R : Hp} {μ : List Addr} : ∀ {ws : List W} {vs : List V} {ns : List Int}, RWs K R μ ws vs → intsOf ws = some ns → vs = ns.map V.int
  | _, _, ns, .nil, e => by unfold intsOf at e; cases e; rfl
  | w :: ws, _, ns, .cons r rs, e => by
    cases r with
    | int i =>
      unfold intsOf at e
      obtain ⟨ns', e1, e2⟩ := Option.map_eq_some_iff.mp e
      subst e2
      rw [ints_of rs e1]
      rfl
    | _ => unfold intsOf at e; cases e
theorem rws_ints {K : PySem.W.Frag} {R : Hp} {μ : List Addr} : ∀ ns : List Int, RWs K R μ (ns.map W.int) (ns.map V.int)
  | [] => .nil
  | n :: ns => .cons (.int n) (rws_ints ns)
def eLenSet (f : EvE) : EvE := fun env st => (f env st).bind fun w st1 => match lstOf st1 w with
  | some ws => (match intsOf ws with
    | some ns => if ns.length ≤ 1000 then .ok (.int (sortI ns).length) st1 else .bad
    | none => .bad)
  | none => .bad
def eSortSet (f : EvE) : EvE := fun env st => (f env st).bind fun w st1 => match lstOf st1 w with
  | some ws => (match intsOf ws with
    | some ns => if ns.length ≤ 1000 ∧ (sortI ns).length < 64 then .ok (.lst ((sortI ns).map W.int)) st1 else .bad
    | none => .bad)
  | none => .bad
section
variable {X : Cx} {ec : Str → Addr} {Wx : WX} {p p2 pos pos2 : Pos} {e : Expr} {fa : EvE}
theorem pv_lenSet (hc : X.calm = true) (hg : Gl X "len") (hm : X.mg "len" = none) (hg2 : Gl X "set") (hm2 : X.mg "set" = none) (ha : PV X ec Wx e fa) (hs : starEach [e] X.env = [(false, eval e X.env)] := by rfl)
    (hs2 : starEach [Expr.Call (.Name "set" p2) [e] [] pos2] X.env = [(false, eval (.Call (.Name "set" p2) [e] [] pos2) X.env)] := by rfl) : PV X ec Wx (.Call (.Name "len" p) [.Call (.Name "set" p2) [e] [] pos2] [] pos) (eLenSet fa) :=
  (pe_callB call_lenSet hg hm rfl (pa_cons (pe_callTy (call_setL hc) hg2 hm2 rfl (pa_cons ha pa_nil hs) (by decide) (by decide) hs rfl) pa_nil hs2) (by decide) (by decide) hs2 rfl).imp fun σ H Q ⟨R, μ, env, st, henv, hh, hp⟩ => by
    refine ev_step henv hh hp fun w st1 R1 μ1 H1 v q1 he1 r hp1 => ?_
    split at hp1
    · rename_i ws e1
      split at hp1
      · rename_i ns e2
        by_cases hz : ns.length ≤ 1000
        · rw [if_pos hz] at hp1
          obtain ⟨l, vs, rfl, hq, rs⟩ := lst_of q1.h r e1
          rw [ints_of rs e2] at hq
          refine ⟨l, ns, rfl, hq, hz, fun pt hn => ⟨pt, _, _, rfl, upd_same, fun ks nd mem => ?_⟩⟩
          have el : ks.length = (sortI ns).length := len_one nd (nodup_asc asc_sortI) fun k => by
            rw [← mem k, decide_eq_true_iff, mem_sortI]
          rw [el]
          have A := q1.h.newR hn (SetO X.w pt (fun j => decide (j ∈ ns)) (sortI ns).length) (fun ps z => by unfold SetO at z; cases z)
          exact hp1 _ _ _ A _ (.int _)
        · rw [if_neg hz] at hp1; exact hp1.elim
      · exact hp1.elim
    · exact hp1.elim
theorem pv_sortSet (hc : X.calm = true) (hg : Gl X "sorted") (hm : X.mg "sorted" = none) (hg2 : Gl X "set") (hm2 : X.mg "set" = none) (ha : PV X ec Wx e fa) (hs : starEach [e] X.env = [(false, eval e X.env)] := by rfl)
    (hs2 : starEach [Expr.Call (.Name "set" p2) [e] [] pos2] X.env = [(false, eval (.Call (.Name "set" p2) [e] [] pos2) X.env)] := by rfl) : PV X ec Wx (.Call (.Name "sorted" p) [.Call (.Name "set" p2) [e] [] pos2] [] pos) (eSortSet fa) :=
  (pe_callB (cr_sortedSet hc) hg hm rfl (pa_cons (pe_callTy (call_setL hc) hg2 hm2 rfl (pa_cons ha pa_nil hs) (by decide) (by decide) hs rfl) pa_nil hs2) (by decide) (by decide) hs2 rfl).imp fun σ H Q ⟨R, μ, env, st, henv, hh, hp⟩ => by
    refine ev_step henv hh hp fun w st1 R1 μ1 H1 v q1 he1 r hp1 => ?_
    split at hp1
    · rename_i ws e1
      split at hp1
      · rename_i ns e2
        by_cases hz : ns.length ≤ 1000 ∧ (sortI ns).length < 64
        · rw [if_pos hz] at hp1
          obtain ⟨l, vs, rfl, hq, rs⟩ := lst_of q1.h r e1
          rw [ints_of rs e2] at hq
          refine ⟨l, ns, rfl, hq, hz.1, fun pt hn => ⟨pt, _, _, rfl, upd_same, hz.2, fun ks pl asc mem hl hpl => ?_⟩⟩
          · have el : ks = sortI ns := asc_one asc asc_sortI fun k => by
              rw [mem k, decide_eq_true_iff, mem_sortI]
            subst el
            have A := q1.h.newR hn (SetO X.w pt (fun j => decide (j ∈ ns)) (sortI ns).length) (fun ps z => by unfold SetO at z; cases z)
            have A2 := A.h.newR hpl (.lst ((sortI ns).map V.int))
            exact hp1 _ _ _ (A.trans A2) _ (.lst upd_same (rws_ints _))
        · rw [if_neg hz] at hp1; exact hp1.elim
      · exact hp1.elim
    · exact hp1.elim
end
end Vl
end
section
set_option Elab.async false
set_option linter.all false
set_option maxRecDepth 100000
set_option maxHeartbeats 1000000
/-! V13: repr of data; defs that want to know what is shown right now (nothing). -/
namespace Vl
open PySem PySem.Spec PyProof.Rows L2
/-- data that repr shows in so many signs -/
def okD (d : PyData) : Bool := PyData.layable0 d && d.intsShort 13 && d.showable
theorem okD_len {d : PyData} (h : okD d = true) : d.shown.length ≤ sizeLine ∧ d.showable = true ∧ d.hasDict = false ∧ d.depth ≤ 64 := by
  unfold okD at h
  rw [Bool.and_eq_true, Bool.and_eq_true] at h
  obtain ⟨⟨h1, h2⟩, h3⟩ := h
  have q : (PyData.canLay0 d && decide (PyData.depth d ≤ 64) && decide (PyData.weight d ≤ 2 ^ 20)) = true := h1
  simp only [Bool.and_eq_true, decide_eq_true_eq] at q
  have l := PyData.shown_le 13 (by decide) d (PyData.leavesShort_of_canLay0 13 d q.1.1 h2)
  have e : (2 : Nat) ^ 20 = 1048576 := by decide
  exact ⟨by rw [sizeLine_eq]; omega, h3, PyData.hasDict_of_canLay d q.1.1, q.1.2⟩
def rRepr (K : PySem.W.Frag) : List V → Hp → VK → Prop := fun xs H Q => ∃ a d, xs = [.ref a] ∧ Dp K H (.ref a) d ∧ okD d = true ∧ Q (.str d.shown) H
theorem call_repr {X : Cx} (hg : X.A.guards = some []) (hu : X.A.units + 70 < cLine) : CallR X (.builtin "repr") (rRepr X.K) := by
  intro pins s σ H xs us Q I r ⟨a, d, ex, hd, ok, q⟩
  subst ex
  rw [Vals.ref1 r]
  obtain ⟨as, rr⟩ := Dp.reads I d (.ref a) (.ref a) hd rfl
  obtain ⟨l1, l2, l3, l4⟩ := okD_len ok
  exact repr_of_reads' rr l2 (PyData.noDict_hsm l3) hg (by omega) (fun _ _ e => e) (fun h' u tk hk => ⟨.str d.shown, H, I.kept (t' := tk) hk, ⟨_, rfl⟩, q⟩) l1
def isRef : W → Bool
  | .tup _ => true
  | .lst _ => true
  | .obj _ => true
  | _ => false
def kRepr : List W → Store → Res W := fun ws st => match ws with
  | [w] => (match datS st w with
    | some d => if (isRef w && okD d) = true then .ok (.str d.shown) st else .bad
    | none => .bad)
  | _ => .bad
theorem ref_of {K : PySem.W.Frag} {R : Hp} {μ : List Addr} {w : W} {v : V} (r : RW K R μ w v) (h : isRef w = true) : ∃ a, v = .ref a := by
  cases r with
  | tup _ _ => exact ⟨_, rfl⟩
  | lst _ _ => exact ⟨_, rfl⟩
  | obj _ => exact ⟨_, rfl⟩
  | _ => cases h
theorem sem_repr {K : PySem.W.Frag} : SemC K (rRepr K) kRepr := fun ec R μ st H E Q ws vs hh rs hp => by
  unfold kRepr at hp
  split at hp
  · rename_i w
    cases rs with
    | cons r1 rr =>
      cases rr
      split at hp
      · rename_i d e
        by_cases hz : (isRef w && okD d) = true
        · rw [if_pos hz] at hp
          obtain ⟨z1, z2⟩ := Bool.and_eq_true_iff.mp hz
          obtain ⟨a, rfl⟩ := ref_of r1 z1
          exact ⟨a, d, rfl, datS_rel hh r1 e, z2, gv_now hp hh (.str _)⟩
        · rw [if_neg hz] at hp; exact hp.elim
      · exact hp.elim
  · exact hp.elim
/-! ### defs called where nothing is being shown -/
structure FnG (P : Program) (w : World) (K : PySem.W.Frag) (mg : Str → Option Value) (base : Heap) (k : Nat) (f : Addr) (fd : FuncData) (ps : List Str) (sp : Sp) : Prop where
  len : ∀ vs H Q E, sp vs H Q E → vs.length = ps.length
  run : ∀ (A : Around) (outer : List Env) (s : Shared) (H : Hp) (args : Args) (us : List Value) (vs : List V) (Q : VK) (E : XK), A.guards = some [] → Room k A → Env0 P w K mg base A outer s H → BindsTo s fd args (ps.zip us) → Vals vs us → sp vs H Q E →
    codeAny (model P w) A (.call (.ref f) args) (CR (L2.CX P w) outer P w H s Q E) s
section
variable {P : Program} {w : World} {K : PySem.W.Frag} {mg : Str → Option Value} {base : Heap} {ec : Str → Addr} {x qual : Str} {params : Arguments} {body : List Stmt} {scope : Scope} {f : Addr} {fd : FuncData}
theorem FnOk.toG {k : Nat} {ps : List Str} {sp : Sp} (F : FnOk P w K mg base (L2.CX P w) k f fd ps sp) : FnG P w K mg base k f fd ps sp := ⟨F.len, fun A outer s H args us vs Q E _ => F.run A outer s H args us vs Q E⟩
theorem FnG.mono {j k : Nat} {ps : List Str} {sp : Sp} (F : FnG P w K mg base j f fd ps sp) (h : j ≤ k) : FnG P w K mg base k f fd ps sp := ⟨F.len, fun A outer s H args us vs Q E hg hr => F.run A outer s H args us vs Q E hg (hr.mono h)⟩
theorem fnG_of {N ps : List Str} {k : Nat} {sp : Sp} (F : FunD K x qual params body scope [] [] f fd) (S : FnScope N ps scope) (len : ∀ vs H Q E, sp vs H Q E → vs.length = ps.length)
    (hb : ∀ (cdv : Value) (A : Around) (outer : List Env) (s : Shared) (H : Hp) (vs : List V) (Q : VK) (E : XK), A.guards = some [] → Room k (A.deeper (envOfC qual scope s.heap.objs.size f cdv)) → sp vs H Q E →
      ∃ t, PSs (cxOf (L2.CX P w) P w K mg base N qual scope f cdv A outer s H E) body t ∧ t { nx := fun _ H' => Q .non H', rt := Q } (L2.start N vs) H) : FnG P w K mg base (k + 1) f fd ps sp := by
  refine ⟨len, fun A outer s H args us vs Q E hg hr e0 hbd r h => ?_⟩
  obtain ⟨oc, od, dV, kV, doc, pm, an, cdv, ct, osl, rfl, lk, hcd, _, _⟩ := F.ex
  have X := LamX.run_ofS (CX := L2.CX P w) (k := k) lk hcd S (A := A) (outer := outer) (s := s) (H := H) (args := args) (us := us) (vs := vs) (Q := Q) (E := E) hr e0 hbd r (len _ _ _ _ h) fun hr' => hb cdv A outer s H vs Q E hg hr' h
  exact X
/-- .. told by its body's function -/
theorem fnGV {N ps : List Str} {k : Nat} {g : EvS} (F : FunD K x qual params body scope [] [] f fd) (S : FnScope N ps scope)
    (hb : ∀ (cdv : Value) (A : Around) (outer : List Env) (s : Shared) (H : Hp) (E : XK), A.guards = some [] → Room k (A.deeper (envOfC qual scope s.heap.objs.size f cdv)) → PVSs (cxOf (L2.CX P w) P w K mg base N qual scope f cdv A outer s H E) ec E body g) :
    FnG P w K mg base (k + 1) f fd ps (spV K ec ps.length (defF N.length g)) := by
  refine fnG_of F S (fun vs H Q E ⟨_, _, _, _, _, h, _⟩ => h) fun cdv A outer s H vs Q E hg hr h => ⟨_, hb cdv A outer s H E hg hr, ?_⟩
  obtain ⟨R, μ, ws, st, rs, hl, hh, hp⟩ := h
  refine ⟨R, μ, startE N.length ws, st, startE_rel rs, hh, hp.seq.mono fun o st1 R1 μ1 H1 _ q => ?_⟩
  obtain ⟨q1, q2⟩ := q
  cases o with
  | nx env => exact fun σ' _ => q2.now q1.h _ .non
  | rt w => exact q2.now q1.h
  | bk env => exact q2.elim
  | ct env => exact q2.elim
end
section
variable {X : Cx} {ec : Str → Addr} {Wx : WX} {pos p : Pos} {e : Expr} {es : List Expr} {fes : EvA}
theorem pv_callG {k n : Nat} {f : Addr} {fd : FuncData} {ps : List Str} {F : List W → Store → Res W} {x : Str} (G : FnG X.prog X.w X.K X.mg X.base k f fd ps (spV X.K ec n F)) (hgd : X.A.guards = some []) (hr : Room k X.A) (hg : Gl X x) (hm : X.mg x = some (.ref f))
    (hk : PySem.W.keepIn X.K (.ref f) = true) (hb : Binds X.K fd ps []) (tk : Takes X Wx) (ha : PAV X ec Wx (e :: es) fes) (hdb : (x == ("__debug__" : Str)) = false := by decide)
    (he : starEach (e :: es) X.env = (false, eval e X.env) :: starEach es X.env := by rfl) (hpl : (backTo pos (starEach es X.env)).any (·.1) = false := by rfl) : PV X ec Wx (.Call (.Name x p) (e :: es) [] pos) (eCall n F fes) := by
  refine ⟨fun pins s σ H Q I ⟨R, μ, env, st, henv, hh, hp⟩ => wpAny_Call_Name_kw (ld_glob I hg hm ?_ hdb)⟩
  refine PySem.W.callWith_K (h₀ := X.base) I.ok.mod.kin hk (thn (ha.run pos pins s σ H _ I (av_stepG (Q1 := fun vs H1 => spV X.K ec n F vs H1 Q (WE Wx σ)) henv hh hp fun ws st1 R1 μ1 H1 vs q1 he1 r hp1 => ?_)) fun us s1 ⟨vs, H1, I1, r, q⟩ => ⟨I1.kIn, ?_⟩) he hpl
  · by_cases hz : ws.length = n
    · rw [if_pos hz] at hp1
      exact ⟨R1, μ1, ws, st1, r, by rw [← r.length]; exact hz, q1.h, hp1⟩
    · rw [if_neg hz] at hp1; exact hp1.elim
  · have hl : us.length = ps.length := by rw [← r.length]; exact G.len _ _ _ _ q
    have b := hb s1 us I1.kIn (by rw [List.append_nil]; exact hl)
    rw [List.append_nil] at b
    refine wpAny_call (codeAny_mono (G.run X.A X.stack s1 H1 ⟨us, []⟩ us vs Q (WE Wx σ) hgd hr I1.env0 b r q) fun r2 s2 hq => ?_)
    match r2, hq with
    | .error e, hq => exact passAt tk σ pins H1 s1 e s2 I1 hq
    | .ok (.ret u), hq => exact I1.after hq
end
end Vl
end
section
set_option Elab.async false
set_option linter.all false
set_option maxRecDepth 100000
set_option maxHeartbeats 1000000
/-! V14: try with several clauses, each with a name or none. -/
namespace Vl
open PySem PySem.Spec PyProof.Rows L2
/-- the ends of a suite whose name goes behind it -/
def goes (i : Nat) (D : Ends) : Ends := { nx := fun σ' H' => D.nx (σ'.set i none) H', rt := D.rt, bk := fun σ' H' => D.bk (σ'.set i none) H', ct := fun σ' H' => D.ct (σ'.set i none) H' }
abbrev Cl := Value × Option Nat × (Addr → Value → Option Addr → TS)
def wCl (K : PySem.W.Frag) (Wout : WX) (D : Ends) : List Cl → WX
  | [] => Wout
  | (c, oi, ts) :: r => fun cls d σ H => ∃ b, PySem.W.exmOne K cls c = some b ∧ (b = false → wCl K Wout D r cls d σ H) ∧ (b = true → ∀ a, H a = none → match oi with
      | none => ts a cls d D σ H
      | some i => ts a cls d (goes i D) (σ.set i (some (.ref a))) H)
inductive ClOk (X : Cx) : List ExceptHandler → List Cl → Prop
  | nil : ClOk X [] []
  | bare {x : Str} {c : Value} {ts : Addr → Value → Option Addr → TS} {b0 : Stmt} {su : List Stmt} {np pp : Pos} {hs : List ExceptHandler} {l : List Cl} (hc : Names X x c)
      (hsu : ∀ (a : Addr) (oe : Obj) (cls : Value) (d : Option Addr) (pn : List (Addr × Obj)), Zc cls d oe → (∃ vs, oe.data = .fields vs) → PSs (X.suite a ((a, oe) :: pn)) (b0 :: su) (ts a cls d)) (r : ClOk X hs l) :
      ClOk X (.ExceptHandler (some (.Name x np)) none (b0 :: su) pp :: hs) ((c, none, ts) :: l)
  | named {x n : Str} {i : Nat} {c : Value} {ts : Addr → Value → Option Addr → TS} {b0 : Stmt} {su : List Stmt} {np pp : Pos} {hs : List ExceptHandler} {l : List Cl} (hc : Names X x c) (hN : X.N.Nodup) (hi : X.N[i]? = some n) (hn : X.env.kindOf n = some .local)
      (hsu : ∀ (a : Addr) (oe : Obj) (cls : Value) (d : Option Addr) (pn : List (Addr × Obj)), Zc cls d oe → (∃ vs, oe.data = .fields vs) → PSs (X.suite a ((a, oe) :: pn)) (b0 :: su) (ts a cls d)) (r : ClOk X hs l) :
      ClOk X (.ExceptHandler (some (.Name x np)) (some n) (b0 :: su) pp :: hs) ((c, some i, ts) :: l)
section
variable {X : Cx} {body : List Stmt} {h0 : ExceptHandler} {hs : List ExceptHandler} {l : List Cl} {pos : Pos} {tb : WX → TS} {Wout : WX}
theorem ps_try_cl (hst : X.stack = X.env :: X.outer) (hfr0 : X.env.frame = some X.env.locals) (tk : Takes X Wout)
    (hb : ∀ (W : WX) (pn : List (Addr × Obj)) (xe : Value → Shared → Prop), Takes (X.tr pn xe) W → PassesOwn (model X.prog X.w) X.A X.env xe → PSs (X.tr pn xe) body (tb W))
    (hcl : ClOk X (h0 :: hs) l) : PS X (.Try body (h0 :: hs) [] [] pos) (fun D σ H => tb (fun cls d σ' H' => σ'.length = X.N.length → wCl X.K Wout D l cls d σ' H') D σ H) := by
  refine ⟨fun pins s σ H D I hw => ?_⟩
  have okX := I.ok
  have frX : X.A.frames = some (X.env :: X.outer) := by rw [okX.frames, hst]
  refine wpAny_Try_except (wpAny_mono ((hb (fun cls d σ' H' => σ'.length = X.N.length → wCl X.K Wout D l cls d σ' H') (X.pn ++ pins) (fun e t => wpAny (model X.prog X.w) X.A (noteFrame e X.env) (fun _ t2 => wpAny (model X.prog X.w) X.A (setFlight e none) (fun _ t3 =>
    wpAny (model X.prog X.w) X.A (handleBy e X.env (h0 :: hs)) (SP X pins D) X.xe t3) X.xe t2) X.xe t) (fun u t xx => ?_) PassesOwn.looking).run [] s σ H D (I.toTry _) hw) (fun fl t hsp => ?_) (fun e t he => he))
  · obtain ⟨a, B, sI, pins1, σ1, H1, cls, d, rfl, J0, nb, up, sky, na, os, ag, wcl⟩ := xx
    have J : Inv X pins σ1 H1 sI := J0.ofTry okX
    have sky1 : Sky B (X.env :: X.outer) a (Zc cls d) X.env.locals t.heap := by rw [← hst]; exact sky
    show wpAny (model X.prog X.w) X.A (noteFrame (.ref a) X.env) _ _ _
    refine Sky.land Zc.steady frX hfr0 sky1 fun hA flA upA => ?_
    have JA : Inv X pins σ1 H1 { t with heap := hA } := J.landed nb flA.1 (up.trans upA) os ag
    obtain ⟨oA, vA, heA, hzA, hdA⟩ := flA.there
    have outF : a ∉ frs (X.env :: X.outer) := fun hm => by
      obtain ⟨_, o', e', hnf⟩ := flA.2.2.1.mem hm
      rw [heA] at e'
      cases e'
      exact hnf _ hdA
    have outL : a ≠ X.env.locals := fun z => outF (List.mem_filterMap.mpr ⟨X.env, List.mem_cons_self, by rw [hfr0, z]⟩)
    have outS : a ∉ X.fs := fun hm => by
      obtain ⟨e, he, q⟩ := List.mem_filterMap.mp hm
      exact outF (List.mem_filterMap.mpr ⟨e, List.mem_cons_of_mem _ he, q⟩)
    have SA := JA.suite heA hdA na outL outS
    have LT : PySem.W.Looks (model X.prog X.w) hA (typeOf (.ref a)) cls := fun A Q E s' k q => wpAny_typeOf_ref (k _ _ heA) (by rw [hzA.1]; exact q)
    have look : ∀ {x : Str} {c : Value} {np : Pos} {Q : Value → Shared → Prop} {E : Value → Shared → Prop}, Names X x c → Q c { t with heap := hA } → wpAny (model X.prog X.w) (X.A.mark (some (.ref a))) (eval (.Name x np) X.env) Q E { t with heap := hA } := fun {x c np Q E} hc q => by
      obtain ⟨g1, g2, g3 | ⟨g3, g4, g5⟩⟩ := hc
      · exact ld_glob (X := X.suite a ((a, oA) :: (X.pn ++ pins))) SA g1 g3 q g2
      · exact ld_blt (X := X.suite a ((a, oA) :: (X.pn ++ pins))) SA g1 g3 g4 q g5 g2
    have each : ∀ {hs' : List ExceptHandler} {l' : List Cl}, ClOk X hs' l' → wCl X.K Wout D l' cls d σ1 H1 → wpAny (model X.prog X.w) X.A (handleBy (.ref a) X.env hs') (SP X pins D) X.xe { t with heap := hA } := by
      intro hs' l' hk
      induction hk with
      | nil =>
        intro w
        refine wpAny_handleBy_nil ?_
        obtain ⟨k1, k2, k3, oe, vs, T, oT, ts', he, hz, hd, g1, hr⟩ := id flA
        unfold PySem.passOn
        refine wpAny_bind (wpAny_field he hd g1 ?_)
        rw [if_neg (show ¬ ((Value.ref T == Value.none) = true) from by simp)]
        have away : wpAny (model X.prog X.w) X.A (setFlight (.ref a) X.env.frame) (fun _ t4 => wpAny (model X.prog X.w) X.A (throw (.ref a) : Sem Flow) (SP X pins D) X.xe t4) X.xe { t with heap := hA } := by
          rw [hfr0]
          exact HandSPX.setFlight_upZ flA fun hB hhB upB => wpAny_throw (tk _ _ ⟨a, B, sI, pins, σ1, H1, cls, d, rfl, J, nb, (up.trans upA).trans upB, .inr (.inr (by rw [hst]; exact hhB)), na, os, ag, w⟩)
        first
          | exact wpAny_bind (wpAny_pure (wpAny_bind away))
          | exact wpAny_bind away
      | @bare x c ts b0 su np pp hs2 l2 hc hsu r ih =>
        intro ⟨b, hb1, hno, hyes⟩
        refine wpAny_handleBy_cons (codeAny_handlers_test (look hc ((PySem.W.exm_one (M := model X.prog X.w) (JA.kIn) LT hb1).here ?_))) (by intro q; cases q)
        cases b with
        | false => exact ih (hno rfl)
        | true =>
          refine codeAny_handlers_suite (HandSPX.lands_againZ flA fun hB flB upB => ?_)
          have JB : Inv X pins σ1 H1 { t with heap := hB } := J.landed nb flB.1 ((up.trans upA).trans upB) os ag
          obtain ⟨oB, vB, heB, hzB, hdB⟩ := flB.there
          have SB := JB.suite heB hdB na outL outS
          refine wpAny_mono ((hsu a oB cls d (X.pn ++ pins) hzB ⟨_, hdB⟩).run [] _ _ H1 _ SB (hyes rfl a na)) (fun fl t6 hsp => ?_) (fun _ _ z => False.elim z)
          match fl, hsp with
          | .next, ⟨σ6, H6, S6, q6⟩ => exact ⟨_, _, S6.unsuite okX, q6⟩
          | .brk, ⟨σ6, H6, S6, q6⟩ => exact ⟨_, _, S6.unsuite okX, q6⟩
          | .cont, ⟨σ6, H6, S6, q6⟩ => exact ⟨_, _, S6.unsuite okX, q6⟩
          | .ret u, ⟨v6, σ6, H6, S6, r6, q6⟩ => exact ⟨_, _, _, S6.unsuite okX, r6, q6⟩
      | @named x n i c ts b0 su np pp hs2 l2 hc hN hi hn hsu r ih =>
        intro ⟨b, hb1, hno, hyes⟩
        refine wpAny_handleBy_cons (codeAny_handlers_test (look hc ((PySem.W.exm_one (M := model X.prog X.w) (JA.kIn) LT hb1).here ?_))) (by intro q; cases q)
        cases b with
        | false => exact ih (hno rfl)
        | true =>
          refine codeAny_handlers_suite_as (HandSPX.lands_againZ flA fun hB flB upB => ?_)
          have JB : Inv X pins σ1 H1 { t with heap := hB } := J.landed nb flB.1 ((up.trans upA).trans upB) os ag
          obtain ⟨oB, vB, heB, hzB, hdB⟩ := flB.there
          have SB := JB.suite heB hdB na outL outS
          refine store_ok (X := X.suite a ((a, oB) :: (X.pn ++ pins))) (v := .ref a) SB hN hi (.inl hn) rfl (fun t5 S5 => ?_) (.inr hn)
          refine wpAny_mono ((hsu a oB cls d (X.pn ++ pins) hzB ⟨_, hdB⟩).run [] t5 _ H1 _ S5 (hyes rfl a na)) (fun fl t6 hsp => ?_) (fun _ _ z => False.elim z)
          have off : ∀ {σ6 : L2.St} {H6 : Hp} {Q : Shared → Prop}, Inv (X.suite a ((a, oB) :: (X.pn ++ pins))) [] σ6 H6 t6 → (∀ t7, Inv X pins (σ6.set i none) H6 t7 → Q t7) →
              wpAny (model X.prog X.w) X.A (do bindName X.env n .none; unbindBehindTheSuite X.env n pp) (fun _ t7 => Q t7) X.xe t6 := fun {σ6 H6 Q} S6 hq => gone_ok (S6.unsuite okX) hN hi hn hq
          match fl, hsp with
          | .next, ⟨σ6, H6, S6, q6⟩ => exact off S6 fun t7 J7 => ⟨_, _, J7, q6⟩
          | .brk, ⟨σ6, H6, S6, q6⟩ => exact off S6 fun t7 J7 => ⟨_, _, J7, q6⟩
          | .cont, ⟨σ6, H6, S6, q6⟩ => exact off S6 fun t7 J7 => ⟨_, _, J7, q6⟩
          | .ret u, ⟨v6, σ6, H6, S6, r6, q6⟩ => exact off S6 fun t7 J7 => ⟨_, _, _, J7, r6, q6⟩
    exact each hcl (wcl J.len)
  · match fl, hsp with
    | .next, ⟨σ6, H6, J6, q6⟩ => exact wpAny_execs_nil ⟨σ6, H6, J6.ofTry okX, q6⟩
    | .brk, ⟨σ6, H6, J6, q6⟩ => exact ⟨σ6, H6, J6.ofTry okX, q6⟩
    | .cont, ⟨σ6, H6, J6, q6⟩ => exact ⟨σ6, H6, J6.ofTry okX, q6⟩
    | .ret u, ⟨v6, σ6, H6, J6, r6, q6⟩ => exact ⟨v6, σ6, H6, J6.ofTry okX, r6, q6⟩
end
end Vl
end
section
set_option Elab.async false
set_option linter.all false
set_option maxRecDepth 100000
set_option maxHeartbeats 2000000
/-! V15: what a lambda's call ends in, told as a list. -/
namespace Vl
open PySem PySem.Spec PyProof.Rows L2
open LamX (TabS Tabs ExtN CodeO GivesTo)
/-- a class's address, its name, its fields that are told -/
abbrev Kinds := List (Addr × Str × List Str)
def Lookd (fs : List (Str × V)) : List Str → List V → Prop
  | [], vs => vs = []
  | f :: r, vs => ∃ v vs', vs = v :: vs' ∧ fs.lookup f = some v ∧ Lookd fs r vs'
def WishC (T : Kinds) (Q : VK) : XK := fun cls d H => ∃ (C : Addr) (n : Str) (fl : List Str), (C, n, fl) ∈ T ∧ cls = .ref C ∧ ∃ (dd : Addr) (fs : List (Str × V)) (vs : List V), d = some dd ∧ H dd = some (.xd fs) ∧ Lookd fs fl vs ∧ ∀ p, H p = none → Q (.ref p) (upd H p (.lst (.str n :: vs)))
def TTc (T : Kinds) : (XK → Hp → VK → Prop) → Hp → VK → Prop := fun tl H Q => tl (WishC T Q) H (fun _ H' => Q .non H')
section
variable {X : Cx} {Ng : List Str} {x a fnd er q : Str} {sg : Scope} {g : Addr} {cdg : Value}
/-- which clause is for which class -/
structure Clses (K : PySem.W.Frag) (mg : Str → Option Value) (C1 C2 C3 C4 C5 : Addr) (n1 n2 n3 n4 n5 : Str) : Prop where
  g1 : mg n1 = some (.ref C1)
  g2 : mg n2 = some (.ref C2)
  g3 : mg n3 = some (.ref C3)
  g4 : mg n4 = some (.ref C4)
  g5 : mg n5 = some (.ref C5)
  e11 : PySem.W.exmOne K (.ref C1) (.ref C1) = some true
  e21 : PySem.W.exmOne K (.ref C2) (.ref C1) = some false
  e22 : PySem.W.exmOne K (.ref C2) (.ref C2) = some true
  e31 : PySem.W.exmOne K (.ref C3) (.ref C1) = some false
  e32 : PySem.W.exmOne K (.ref C3) (.ref C2) = some false
  e33 : PySem.W.exmOne K (.ref C3) (.ref C3) = some true
  e41 : PySem.W.exmOne K (.ref C4) (.ref C1) = some false
  e42 : PySem.W.exmOne K (.ref C4) (.ref C2) = some false
  e43 : PySem.W.exmOne K (.ref C4) (.ref C3) = some false
  e44 : PySem.W.exmOne K (.ref C4) (.ref C4) = some true
theorem caught_gives {C1 C2 C3 C4 C5 : Addr} {n1 n2 n3 n4 n5 f1 f1' f2 f3 f4 : Str} {j0 j1 j2 j3 j4 j5 : Nat} {p1 p2 p3 p4 p5 p6 p7 p8 p10 p11 p12 p13 p14 p15 p16 p17 p18 p19 p20 p21 p22 p23 p24 p25 p26 p27 p28 p29 p30 p31 p32 p33 p34 p35 p36 p37 p38 p39 p40 p41 p42 p43 p44 p45 p46 p47 p48 p49 p50 : Pos}
    (hNg : Ng = [a, fnd, er]) (nd : [a, fnd, er].Nodup) (hla : sg.names.lookup a = some .local) (hlf : sg.names.lookup fnd = some .local) (hle : sg.names.lookup er = some .local)
    (T : Clses X.K X.mg C1 C2 C3 C4 C5 n1 n2 n3 n4 n5) (gl : ∀ n ∈ [n1, n2, n3, n4, n5], sg.names.lookup n = some .globalImplicit ∧ (n == ("__debug__" : Str)) = false)
    (nf : (fnd == ("__debug__" : Str)) = false ∧ (fnd == ("__classdict__" : Str)) = false ∧ (er == ("__debug__" : Str)) = false ∧ (er == ("__classdict__" : Str)) = false)
    (x1 : XfC X.K C1) (x2 : XfC X.K C2) (x3 : XfC X.K C3) (x4 : XfC X.K C4)
    (o1 : PySem.W.findIn X.K (.ref C1) f1 = some none) (o1' : PySem.W.findIn X.K (.ref C1) f1' = some none) (o2 : PySem.W.findIn X.K (.ref C2) f2 = some none) (o3 : PySem.W.findIn X.K (.ref C3) f3 = some none) (o4 : PySem.W.findIn X.K (.ref C4) f4 = some none) :
    GivesTo X Ng x sg g cdg [.Assign [.Name fnd p1] (.Constant .none j0 p2) p3,
      .Try [.Expr (.Call (.Name a p4) [] [] p5) p6] [
        .ExceptHandler (some (.Name n1 p7)) (some er) [.Assign [.Name fnd p8] (.List [.Constant (.str n1) j1 p10, .Attribute (.Name er p11) f1 p12, .Attribute (.Name er p13) f1' p14] p15) p16] p17,
        .ExceptHandler (some (.Name n2 p18)) (some er) [.Assign [.Name fnd p19] (.List [.Constant (.str n2) j2 p20, .Attribute (.Name er p21) f2 p22] p23) p24] p25,
        .ExceptHandler (some (.Name n3 p26)) (some er) [.Assign [.Name fnd p27] (.List [.Constant (.str n3) j3 p28, .Attribute (.Name er p29) f3 p30] p31) p32] p33,
        .ExceptHandler (some (.Name n4 p34)) (some er) [.Assign [.Name fnd p35] (.List [.Constant (.str n4) j4 p36, .Attribute (.Name er p37) f4 p38] p39) p40] p41,
        .ExceptHandler (some (.Name n5 p42)) none [.Assign [.Name fnd p43] (.List [.Constant (.str "another") j5 p44] p45) p46] p47] [] [] p48,
      .Return (some (.Name fnd p49)) p50] a q (TTc [(C1, n1, [f1, f1']), (C2, n2, [f2]), (C3, n3, [f3]), (C4, n4, [f4])]) := by
  subst hNg
  intro f c' s H Q tl act hc h
  have gn : ∀ {n : Str}, n ∈ [n1, n2, n3, n4, n5] → Gl (cxOf C8.CX0 X.prog X.w X.K X.mg X.base [a, fnd, er] x sg g cdg X.A X.stack s H C8.E0).nox n := fun h => (gl _ h).1
  have hn1 : [a, fnd, er][1]? = some fnd := rfl
  have hn2 : [a, fnd, er][2]? = some er := rfl
  refine ⟨_, pss_cons (ps_set (i := 1) nd hn1 (.inl hlf) pe_non rfl (.inr hlf)) (pss_cons (ps_try_cl (X := (cxOf C8.CX0 X.prog X.w X.K X.mg X.base [a, fnd, er] x sg g cdg X.A X.stack s H C8.E0).nox)
      (tb := fun W D σ H => ∃ Ech : XK, (∀ cls d σ' H', Ech cls d H' → W cls d σ' H') ∧ σ[0]? = some (some (.ref f)) ∧ H c' = some (CodeO c' q) ∧ tl Ech H (fun _ H' => D.nx σ H'))
      rfl rfl LamX.takes0 (fun W pn xe tk _ => ?_)
      (.named ⟨gn (by simp), (gl n1 (by simp)).2, .inl T.g1⟩ nd hn2 hle (fun a oe cls d pn hz hv => pss_one (ps_set (i := 1) nd hn1 (.inl hlf) (pe_lst (pa_cons pe_str (pa_cons (pe_xf x1 o1 hz hv (pe_var (i := 2) hn2 (.inl hle) nf.2.2.1 nf.2.2.2) rfl) (pa_cons (pe_xf x1 o1' hz hv (pe_var (i := 2) hn2 (.inl hle) nf.2.2.1 nf.2.2.2) rfl) pa_nil rfl) rfl) rfl)) rfl (.inr hlf)))
      (.named ⟨gn (by simp), (gl n2 (by simp)).2, .inl T.g2⟩ nd hn2 hle (fun a oe cls d pn hz hv => pss_one (ps_set (i := 1) nd hn1 (.inl hlf) (pe_lst (pa_cons pe_str (pa_cons (pe_xf x2 o2 hz hv (pe_var (i := 2) hn2 (.inl hle) nf.2.2.1 nf.2.2.2) rfl) pa_nil rfl) rfl)) rfl (.inr hlf)))
      (.named ⟨gn (by simp), (gl n3 (by simp)).2, .inl T.g3⟩ nd hn2 hle (fun a oe cls d pn hz hv => pss_one (ps_set (i := 1) nd hn1 (.inl hlf) (pe_lst (pa_cons pe_str (pa_cons (pe_xf x3 o3 hz hv (pe_var (i := 2) hn2 (.inl hle) nf.2.2.1 nf.2.2.2) rfl) pa_nil rfl) rfl)) rfl (.inr hlf)))
      (.named ⟨gn (by simp), (gl n4 (by simp)).2, .inl T.g4⟩ nd hn2 hle (fun a oe cls d pn hz hv => pss_one (ps_set (i := 1) nd hn1 (.inl hlf) (pe_lst (pa_cons pe_str (pa_cons (pe_xf x4 o4 hz hv (pe_var (i := 2) hn2 (.inl hle) nf.2.2.1 nf.2.2.2) rfl) pa_nil rfl) rfl)) rfl (.inr hlf)))
      (.bare ⟨gn (by simp), (gl n5 (by simp)).2, .inl T.g5⟩ (fun a oe cls d pn hz hv => pss_one (ps_set (i := 1) nd hn1 (.inl hlf) (pe_lst (pa_cons pe_str pa_nil rfl)) rfl (.inr hlf))) .nil)))))) (pss_one (ps_ret (pe_var (i := 1) hn1 (.inl hlf) nf.1 nf.2.1)))), ?_⟩
  · refine ⟨fun pins s' σ H' D I h' => ?_⟩
    obtain ⟨Ech, hW, h1, h2, h3⟩ := h'
    exact (pss_one (ps_expr (pos := p6) (act W pn xe Ech p4 p5 tk hW))).run pins s' σ H' D I ⟨h1, h2, h3⟩
  · refine ⟨WishC [(C1, n1, [f1, f1']), (C2, n2, [f2]), (C3, n3, [f3]), (C4, n4, [f4])] Q, ?_, rfl, hc, ?_⟩
    · intro cls d σ' H' ⟨C, n, fl, hm, ec, dd, fs, vs, ed, ea, lk, fin⟩ hl
      subst ec ed
      have hl3 : σ'.length = 3 := hl
      have g2 : ∀ u : Option V, (σ'.set 2 u)[2]? = some u := fun u => List.getElem?_set_self (by omega)
      have g1 : ∀ u : V, (((σ'.set 2 (some (.ref 0))).set 1 (some u)).set 2 none)[1]? = some (some u) := fun u => by
        rw [List.getElem?_set_ne (by decide), List.getElem?_set_self (by rw [List.length_set]; omega)]
      have g1' : ∀ (y : Option V) (u : V), (((σ'.set 2 y).set 1 (some u)).set 2 none)[1]? = some (some u) := fun y u => by
        rw [List.getElem?_set_ne (by decide), List.getElem?_set_self (by rw [List.length_set]; omega)]
      have sz : ∀ l : List V, l.length ≤ 3 → l.length ≤ sizeLine := fun l h => by rw [sizeLine_eq]; omega
      simp only [List.mem_cons, List.not_mem_nil, or_false, Prod.mk.injEq] at hm
      rcases hm with ⟨rfl, rfl, rfl⟩ | ⟨rfl, rfl, rfl⟩ | ⟨rfl, rfl, rfl⟩ | ⟨rfl, rfl, rfl⟩
      · obtain ⟨v, vs1, rfl, l1, v', vs2, rfl, l2, rfl⟩ := lk
        refine ⟨true, T.e11, (fun z => nomatch z), fun _ at_ na => ?_⟩
        refine ⟨.ref at_, g2 _, rfl, rfl, dd, fs, v, rfl, ea, l1, .ref at_, g2 _, rfl, rfl, dd, fs, v', rfl, ea, l2, sz _ (by simp), fun p hp => ⟨.ref p, g1' _ _, fin p hp⟩⟩
      · obtain ⟨v, vs1, rfl, l1, rfl⟩ := lk
        refine ⟨false, T.e21, (fun _ => ⟨true, T.e22, (fun z => nomatch z), fun _ at_ na => ?_⟩), (fun z => nomatch z)⟩
        exact ⟨.ref at_, g2 _, rfl, rfl, dd, fs, v, rfl, ea, l1, sz _ (by simp), fun p hp => ⟨.ref p, g1' _ _, fin p hp⟩⟩
      · obtain ⟨v, vs1, rfl, l1, rfl⟩ := lk
        refine ⟨false, T.e31, (fun _ => ⟨false, T.e32, (fun _ => ⟨true, T.e33, (fun z => nomatch z), fun _ at_ na => ?_⟩), (fun z => nomatch z)⟩), (fun z => nomatch z)⟩
        exact ⟨.ref at_, g2 _, rfl, rfl, dd, fs, v, rfl, ea, l1, sz _ (by simp), fun p hp => ⟨.ref p, g1' _ _, fin p hp⟩⟩
      · obtain ⟨v, vs1, rfl, l1, rfl⟩ := lk
        refine ⟨false, T.e41, (fun _ => ⟨false, T.e42, (fun _ => ⟨false, T.e43, (fun _ => ⟨true, T.e44, (fun z => nomatch z), fun _ at_ na => ?_⟩), (fun z => nomatch z)⟩), (fun z => nomatch z)⟩), (fun z => nomatch z)⟩
        exact ⟨.ref at_, g2 _, rfl, rfl, dd, fs, v, rfl, ea, l1, sz _ (by simp), fun p hp => ⟨.ref p, g1' _ _, fin p hp⟩⟩
    · have same : (fun (_ : V) (H' : Hp) => tRet (tVar 1) { nx := fun _ H' => Q .non H', rt := Q } ((L2.start [a, fnd, er] [V.ref f]).set 1 (some .non)) H') = fun _ H' => Q .non H' := by
        funext _ H'
        refine propext ⟨fun ⟨v, e, z⟩ => ?_, fun z => ⟨.non, rfl, z⟩⟩
        have e' : some (some V.non) = some (some v) := e
        cases e'
        exact z
      show tl _ H (fun (_ : V) (H' : Hp) => tRet (tVar 1) { nx := fun _ H' => Q .non H', rt := Q } ((L2.start [a, fnd, er] [V.ref f]).set 1 (some .non)) H')
      rw [same]
      exact h
end
/-! ### the call with the lambda -/
def isTb (P : Addr) (q : Str) : MO → Bool
  | .tab P' q' => decide (P' = P) && decide (q' = q)
  | _ => true
def okTabs (P : Addr) (q : Str) (st : Store) : Bool := (match st with
  | .tab P' q' :: _ => decide (P' = P) && decide (q' = q)
  | _ => false) && st.all (isTb P q)
theorem tabs_of {K : PySem.W.Frag} {R : Hp} {μ : List Addr} {st : Store} {H : Hp} {P : Addr} {q : Str} (hh : HRel K R μ st H) (ok : okTabs P q st = true) : Tabs [(P, q)] H := by
  obtain ⟨h1, h2⟩ := Bool.and_eq_true_iff.mp ok
  split at h1
  · rename_i P' q' rest
    obtain ⟨e1, e2⟩ := Bool.and_eq_true_iff.mp h1
    have e1 := of_decide_eq_true e1
    have e2 := of_decide_eq_true e2
    subst e1 e2
    have hl : 0 < μ.length := by rw [hh.len]; simp
    obtain ⟨_, t⟩ := hh.tbs 0 μ[0] _ _ (List.getElem?_eq_getElem hl) rfl
    intro p hp
    rw [List.mem_singleton.mp hp]
    exact t
  · cases h1
/-- a lambda was made -/
theorem HRel.tabled {K : PySem.W.Frag} {R : Hp} {μ : List Addr} {st : Store} {H H1 : Hp} {P : Addr} {q : Str} (hh : HRel K R μ st H) (ok : okTabs P q st = true) (eN : ExtN H H1) (T1 : Tabs [(P, q)] H1) : After K R μ H R μ st H1 where
  g := .refl
  k := fun a o e _ nt => eN a o e nt
  new := fun a hm n => absurd hm n
  nr := fun a o e n _ => by rw [n] at e; cases e
  h := {
    sub := fun a o e => eN a o (hh.sub a o e) fun ps z => hh.ntb a ps (by rw [e, z])
    dis := hh.dis
    nd := hh.nd
    len := hh.len
    at_ := fun i a m e1 e2 => by
      have r := hh.at_ i a m e1 e2
      cases m with
      | L ws => obtain ⟨vs, e, rs⟩ := r; exact ⟨vs, eN a _ e fun ps z => (nomatch z), rs⟩
      | D ks => obtain ⟨vs, e, rs⟩ := r; exact ⟨vs, eN a _ e fun ps z => (nomatch z), rs⟩
      | tab P' q' =>
        have z := List.all_eq_true.mp (Bool.and_eq_true_iff.mp ok).2 _ (List.mem_of_getElem? e2)
        obtain ⟨z1, z2⟩ := Bool.and_eq_true_iff.mp z
        obtain ⟨ea, _⟩ := hh.tbs i a P' q' e1 e2
        obtain ⟨ps, h1, _⟩ := T1 (P, q) (List.mem_singleton.mpr rfl)
        exact ⟨ps, by rw [ea, of_decide_eq_true z1]; exact h1⟩
    ntb := hh.ntb
    tbs := fun i a P' q' e1 e2 => by
      have z := List.all_eq_true.mp (Bool.and_eq_true_iff.mp ok).2 _ (List.mem_of_getElem? e2)
      obtain ⟨z1, z2⟩ := Bool.and_eq_true_iff.mp z
      obtain ⟨ea, _⟩ := hh.tbs i a P' q' e1 e2
      refine ⟨ea, ?_⟩
      rw [of_decide_eq_true z1, of_decide_eq_true z2]
      exact T1 (P, q) (List.mem_singleton.mpr rfl) }
def fieldsOf (fs : List (Str × W)) : List Str → Option (List W)
  | [] => some []
  | f :: r => match fs.lookup f, fieldsOf fs r with
    | some w, some ws => some (w :: ws)
    | _, _ => none
def caughtF (T : List (Str × List Str)) : Res W → Res W
  | .ok _ st => .ok .non st
  | .exc c fs st => (match T.lookup c with
    | some fl => (match fieldsOf fs fl with
      | some ws => .ok (.lst (.str c :: ws)) st
      | none => .bad)
    | none => .bad)
  | .bad => .bad
def eCaught (P : Addr) (q : Str) (T : List (Str × List Str)) (f : EvE) : EvE := fun env st => if okTabs P q st = true then caughtF T (f env st) else .bad
theorem fields_of {K : PySem.W.Frag} {R : Hp} {μ : List Addr} {fs : List (Str × W)} {vs : List (Str × V)} (r : RWf K R μ fs vs) : ∀ {fl : List Str} {ws : List W}, fieldsOf fs fl = some ws → ∃ us, Lookd vs fl us ∧ RWs K R μ ws us
  | [], ws, e => by
    unfold fieldsOf at e
    cases e
    exact ⟨[], rfl, .nil⟩
  | f :: fl, ws, e => by
    unfold fieldsOf at e
    split at e
    · rename_i w ws' e1 e2
      cases e
      obtain ⟨us, h1, h2⟩ := fields_of r e2
      obtain ⟨v, h3, h4⟩ := r.lookup e1
      exact ⟨v :: us, ⟨v, us, rfl, h3, h1⟩, .cons h4 h2⟩
    · cases e
theorem caught_step {K : PySem.W.Frag} {ec : Str → Addr} {Wx : WX} {P : Addr} {q : Str} {T : List (Str × List Str)} {TK : Kinds} {f : EvE} {σ : L2.St} {H : Hp} {Q : VK} (hT : ∀ c fl, T.lookup c = some fl → (ec c, c, fl) ∈ TK) (h : tEv K ec Wx (eCaught P q T f) σ H Q) :
    LamX.tLam [(P, q)] (TTc TK) (fun E => tEv K ec (wE E) f) σ H Q := by
  obtain ⟨R, μ, env, st, he, hh, hp⟩ := h
  unfold eCaught at hp
  by_cases ok : okTabs P q st = true
  · rw [if_pos ok] at hp
    refine ⟨tabs_of hh ok, fun H1 eN T1 => ?_⟩
    have A := hh.tabled ok eN T1
    refine ⟨R, μ, env, st, he, A.h, ?_⟩
    cases e : f env st with
    | bad => rw [e] at hp; exact hp.elim
    | ok a st1 =>
      rw [e] at hp
      exact fun R' μ' H' A2 v r => hp R' μ' H' (A.trans A2) _ .non
    | exc c fs st1 =>
      rw [e] at hp
      unfold caughtF at hp
      split at hp
      · cases ‹Res.exc c fs st1 = _›
      · rename_i c' fs' st1' e0
        cases e0
        split at hp
        · rename_i fl e1
          split at hp
          · rename_i ws e2
            intro R' μ' H' d vs A2 ed rf
            obtain ⟨us, lk, rs⟩ := fields_of rf e2
            refine ⟨ec c, c, fl, hT c fl e1, rfl, d, vs, us, rfl, A2.h.sub _ _ ed, lk, fun p hn => ?_⟩
            have A3 := A2.h.newR hn (.lst (.str c :: us))
            exact hp _ _ _ ((A.trans A2).trans A3) _ (.lst upd_same (.cons (.str c) (rs.grow A3.g)))
          · exact hp.elim
        · exact hp.elim
      · cases ‹Res.exc c fs st1 = _›
  · rw [if_neg ok] at hp; exact hp.elim
end Vl
end
section
set_option Elab.async false
set_option linter.all false
set_option maxRecDepth 100000
set_option maxHeartbeats 2000000
/-! V16: the end of the law's row, where nothing is being shown. -/
namespace Vl
open PySem PySem.Spec PyProof.Rows L2
open LamX (TabB)
theorem law_run {P : Program} {w : World} {K : PySem.W.Frag} {mg mb : Str → Option Value} {k : Nat} {f a : Addr} {cs : List (Addr × Addr)} {fd : FuncData} {x : Str} {sp : Sp} {t : Shared} {us : List Value} {is : List Int}
    (hK : K.In t.heap) (hm : t.heap.Ns mainGlobals mg) (hbn : t.heap.Ns builtinsNs mb) (hbo : ∀ y : Str, y ≠ "__name__" → mb y = bootBuiltins y) (hnl : t.heap.NoLimit) (hgen : t.gens = #[])
    (tabs : ∀ p ∈ cs, t.heap.get? p.2 = some { cls := .none, data := .fields #[] }) (notK : ∀ p ∈ cs, K.lookup p.2 = none) (heads : ∀ p ∈ cs, PySem.W.CodeHd t.heap p.1 p.2)
    (bmod : ∃ (bm : Addr) (ob : Obj), mg "__builtins__" = some (.ref bm) ∧ bm ≠ builtinsNs ∧ t.heap.get? bm = some ob ∧ ob.cls = .type "module" ∧ ob.dict = some builtinsNs ∧ ob.data = .plain)
    (scr : t.heap.get? a = some { cls := .type "list", data := .seq us.toArray }) (allI : IntsAre us is) (len : is.length ≤ sizeLine) (room : Room k callerA)
    (F : ∀ base : Heap, K.In base → base.Ns mainGlobals mg → (∀ p ∈ cs, TabB base mg p.1 p.2) → FnG P w K mg base k f fd [x] sp) (bnd : ∀ (s : Shared) (u : Value), BindsTo s fd ⟨[u], []⟩ [(x, u)])
    (wish : ∀ G : Hp, (∀ p ∈ cs, G p.2 = some (.tbl #[])) → SqL K G a (is.map V.int) → (∀ b ps, G b = some (.tbl ps) → b ∈ cs.map (·.2)) → sp [.ref a] G (fun v _ => v = .bl true) fun _ _ _ => False)
    (noE : ∀ G e s', L2.CX P w [] G t (fun _ _ _ => False) e s' → False) :
    codeAny (model P w) callerA (.call (.ref f) ⟨[.ref a], []⟩) (fun r s' => r = .ok (.ret (.bool true)) ∧ OldK t.heap s'.heap ∧ s'.os = t.os ∧ AllBare s'.gens) t := by
  have relS := vals_ints allI
  have lenS := allI.length
  have asTab : ∀ b : Addr, b ∈ cs.map (·.2) → t.heap.get? b = some { cls := .none, data := .fields #[] } := fun b hb => by
    obtain ⟨p, hp, rfl⟩ := List.mem_map.mp hb
    exact tabs p hp
  have apart : a ∉ cs.map (·.2) := fun z => by
    have y := asTab a z
    rw [scr] at y
    have y' : Data.seq us.toArray _ = Data.fields #[] := congrArg Obj.data (Option.some.inj y)
    cases y'
  have inT : ∀ p ∈ cs, p.2 ∈ cs.map (·.2) := fun p hp => List.mem_map.mpr ⟨p, hp, rfl⟩
  have main : ∀ G : Hp, (∀ p ∈ cs, G p.2 = some (.tbl #[])) → (∀ b, G b = none ∨ b ∈ cs.map (·.2) ∨ ∃ o xs, G b = some (.frz o (.lst xs))) → SqL K G a (is.map V.int) → HOk P w G t.heap → (∀ b, G b ≠ none → b = a ∨ b ∈ cs.map (·.2)) → (G a ≠ none → K.lookup a = none) →
      codeAny (model P w) callerA (.call (.ref f) ⟨[.ref a], []⟩) (fun r s' => r = .ok (.ret (.bool true)) ∧ OldK t.heap s'.heap ∧ s'.os = t.os ∧ AllBare s'.gens) t := by
    intro G gT gO gS gok gA gK
    have hid : ∀ {b : Addr} {o : Obj}, t.heap.get? b = some o → G b = none → (hidT t.heap G).get? b = some o := fun e n => hidT_get e n
    have free : ∀ {b : Addr} {o : Obj}, t.heap.get? b = some o → (∀ vs n, o.data ≠ .seq vs n) → o.data ≠ .fields #[] → G b = none := fun {b o} e h1 h2 => by
      refine Classical.byContradiction fun hn => ?_
      rcases gA b hn with y | y
      · subst y
        rw [scr] at e
        cases e
        exact h1 _ _ rfl
      · rw [asTab b y] at e
        cases e
        exact h2 rfl
    have freeD : ∀ {b : Addr} {o : Obj} {es : Array DictEntry} {ep : Nat}, t.heap.get? b = some o → o.data = .dict es ep → G b = none := fun {b o es ep} e d =>
      free e (fun vs n y => by rw [d] at y; cases y) fun y => by rw [d] at y; cases y
    have freeP : ∀ {b : Addr} {o : Obj}, t.heap.get? b = some o → o.data = .plain → G b = none := fun {b o} e d =>
      free e (fun vs n y => by rw [d] at y; cases y) fun y => by rw [d] at y; cases y
    have nsH : ∀ {b : Addr} {m : Str → Option Value}, t.heap.Ns b m → (hidT t.heap G).Ns b m := fun {b m} ⟨o, es, ep, e, d, r⟩ => ⟨o, es, ep, hid e (freeD e d), d, r⟩
    have kH : K.In (hidT t.heap G) := fun b o e => hid (hK b o e) (by
      refine Classical.byContradiction fun hn => ?_
      rcases gA b hn with y | y
      · subst y
        rw [gK hn] at e
        cases e
      · obtain ⟨p, hp, rfl⟩ := List.mem_map.mp y
        rw [notK p hp] at e
        cases e)
    have modH : L2.Mod K mg (hidT t.heap G) := ⟨kH, nsH hm, ⟨mb, nsH hbn, hbo⟩, let ⟨mc, h1, h2⟩ := hnl; ⟨mc, nsH h1, h2⟩⟩
    have tabH : ∀ p ∈ cs, TabB (hidT t.heap G) mg p.1 p.2 := fun p hp => by
      have here := tabs p hp
      refine ⟨?_, ?_, fun y => ?_⟩
      · obtain ⟨oc, ucs, fl, tfl, flg, tflg, inn, txt, ttx, c1, d1, d2, d3, d4, d5, d6, d7, d8, dn⟩ := heads p hp
        refine ⟨oc, ucs, fl, tfl, flg, tflg, inn, txt, ttx, hid c1 (free c1 (fun vs n y => ?_) fun y => ?_), d1, d2, d3, d4, d5, d6, d7, d8, dn⟩
        · rw [d2] at y
          cases y
        · rw [d2] at y
          cases y
          simp at d3
      · obtain ⟨bm, ob, c1, c2, c3, c4, c5, c6⟩ := bmod
        refine ⟨bm, ob, c1, c2, fun y => ?_, fun y => ?_, hid c3 (freeP c3 c6), c4, c5, c6⟩
        · obtain ⟨o, es, ep, e, hd, _⟩ := hm
          rw [y, e] at c3
          cases c3
          rw [hd] at c6
          cases c6
        · rw [y, here] at c3
          cases c3
          cases c6
      · obtain ⟨o, es, ep, e, hd, _⟩ := hm
        rw [y, here] at e
        cases e
        cases hd
    have env0 : Env0 P w K mg (hidT t.heap G) callerA [] t G := ⟨rfl, modH, fun b o e => of_hidT e, Nat.le_of_eq (hidT_size _ _), trivial, fun b hb => absurd (show b ∈ ([] : List Addr) from hb) (by simp), gok, .of_eq hgen⟩
    have onlyT : ∀ b ps, G b = some (.tbl ps) → b ∈ cs.map (·.2) := fun b ps e => by
      rcases gO b with y | y | ⟨o, xs, y⟩
      · rw [y] at e; cases e
      · exact y
      · rw [y] at e; cases e
    refine codeAny_mono ((F _ kH (nsH hm) tabH).run callerA [] t G ⟨[.ref a], []⟩ [.ref a] [.ref a] _ _ rfl room env0 (bnd t (.ref a)) (.cons rfl .nil) (wish G gT gS onlyT)) fun r s' h => ?_
    match r, h with
    | .error e, h => exact (noE G e s' h).elim
    | .ok (.ret u), h =>
      obtain ⟨v, G', os, bare, un, gok', r', y⟩ := h
      have y' : v = .bl true := y
      subst y'
      obtain rfl : u = Value.bool true := r'
      have stays : ∀ b o, b ∉ cs.map (·.2) → t.heap.get? b = some o → s'.heap.get? b = some o := fun b o nb e => by
        rcases gO b with z | z | ⟨ob, xs, z⟩
        · exact un.keep b o e z (by intro z; exact absurd (show b ∈ ([] : List Addr) from z) (by simp)) (by simp)
        · exact absurd z nb
        · obtain ⟨e1, _⟩ := gok b _ z
          obtain ⟨e2, _⟩ := gok' b _ (un.frzs b ob _ z)
          rw [e] at e1; cases e1
          exact e2
      have more : ∀ p ∈ cs, ∃ ps : Array Value, s'.heap.get? p.2 = some { cls := .none, data := .fields ps } := fun p hp => by
        obtain ⟨ps, z⟩ := un.tbls p.2 #[] (gT p hp)
        exact ⟨_, gok' p.2 _ z⟩
      refine ⟨rfl, ⟨fun b o e => ?_, fun b o e => ?_⟩, os, bare⟩
      · by_cases hb : b ∈ cs.map (·.2)
        · obtain ⟨p, hp, rfl⟩ := List.mem_map.mp hb
          obtain ⟨ps, hps⟩ := more p hp
          rw [tabs p hp] at e
          cases e
          exact .inr (.inl ⟨((heads p hp).tab (tabs p hp)).isCodeTable, rfl, #[], ps, rfl, by rw [Array.empty_append]; exact hps⟩)
        · exact .inl (stays b o hb e)
      · by_cases hb : b ∈ cs.map (·.2)
        · obtain ⟨p, hp, rfl⟩ := List.mem_map.mp hb
          obtain ⟨ps, hps⟩ := more p hp
          exact ⟨_, hps⟩
        · exact ⟨o, stays b o hb e⟩
  -- the script may stand in the read-only part
  let T0 : Hp := fun b => if b ∈ cs.map (·.2) then some (.tbl #[]) else none
  have t0in : ∀ b, b ∈ cs.map (·.2) → T0 b = some (.tbl #[]) := fun b hb => if_pos hb
  have t0out : ∀ b, b ∉ cs.map (·.2) → T0 b = none := fun b hb => if_neg hb
  have t0ok : ∀ b u, T0 b = some u → b ∈ cs.map (·.2) ∧ u = .tbl #[] := fun b u e => by
    by_cases hb : b ∈ cs.map (·.2)
    · rw [t0in b hb] at e; cases e; exact ⟨hb, rfl⟩
    · rw [t0out b hb] at e; cases e
  cases hk : K.lookup a with
  | some o =>
    have e := hK a o hk
    rw [scr] at e
    cases e
    refine main T0 (fun p hp => t0in _ (inT p hp)) (fun b => ?_) (.inr ⟨_, us.toArray, _, hk, rfl, rfl, rfl, by rw [List.size_toArray, lenS]; exact len, by simpa using relS⟩) (fun b u z => ?_) (fun b z => ?_) fun z => absurd (t0out a apart) z
    · by_cases hb : b ∈ cs.map (·.2)
      · exact .inr (.inl hb)
      · exact .inl (t0out b hb)
    · obtain ⟨h1, rfl⟩ := t0ok b u z
      exact asTab b h1
    · by_cases hb : b ∈ cs.map (·.2)
      · exact .inr hb
      · exact absurd (t0out b hb) z
  | none =>
    refine main (upd T0 a (.frz { cls := .type "list", data := .seq us.toArray } (.lst (is.map V.int)))) (fun p hp => ?_) (fun b => ?_) (.inl (.inr ⟨{ cls := .type "list", data := .seq us.toArray }, upd_same⟩)) (fun b u z => ?_) (fun b z => ?_) fun _ => hk
    · rw [upd_ne (fun z => apart (by rw [← z]; exact inT p hp))]
      exact t0in _ (inT p hp)
    · by_cases hb : b = a
      · subst hb
        exact .inr (.inr ⟨_, _, upd_same⟩)
      · by_cases hb2 : b ∈ cs.map (·.2)
        · exact .inr (.inl hb2)
        · exact .inl (by rw [upd_ne hb]; exact t0out b hb2)
    · by_cases hb : b = a
      · subst hb
        rw [upd_same] at z
        cases z
        exact ⟨scr, by rw [List.length_map]; exact len, us, _, relS, scr⟩
      · rw [upd_ne hb] at z
        obtain ⟨h1, rfl⟩ := t0ok b u z
        exact asTab b h1
    · by_cases hb : b = a
      · exact .inl hb
      · rw [upd_ne hb] at z
        by_cases hb2 : b ∈ cs.map (·.2)
        · exact .inr hb2
        · exact absurd (t0out b hb2) z
end Vl
end
section
set_option Elab.async false
set_option linter.all false
set_option maxRecDepth 100000
set_option maxHeartbeats 1000000
/-! V17: what the head is asked of the own classes. -/
namespace Vl
open PySem PySem.Spec PyProof.Rows L2 He
def oexB (K : PySem.W.Frag) (C : Addr) : Bool := (match K.lookup C with
  | some ⟨.type "type", _, .cls cd, sl⟩ => (match cd.mro, sl.toList with
    | .ref C' :: bm, [_, _, _, _, some (.builtin n), _] => decide (C' = C) && (decide (n = "ValueError.__new__") && (!cd.hasDel && (cd.hasDict && PySem.HandSPX.refsVE bm)))
    | _, _ => false)
  | _ => false) && (decide (PySem.W.findIn K (.ref C) "__setattr__" = some (some (.builtin "object.__setattr__"))) && (decide (PySem.W.subIn K (.ref C) (.type "BaseException") = some true) && (decide (PySem.W.typeIn K (.ref C) = some (.type "type")) && PySem.W.keepIn K (.ref C))))
theorem oexB_ok {K : PySem.W.Frag} {C : Addr} (h : oexB K C = true) : OexC K C := by
  unfold oexB at h
  obtain ⟨h1, h⟩ := ba h
  obtain ⟨h2, h⟩ := ba h
  obtain ⟨h3, h⟩ := ba h
  obtain ⟨h4, h5⟩ := ba h
  refine ⟨?_, of_decide_eq_true h2, of_decide_eq_true h3, of_decide_eq_true h4, h5⟩
  split at h1
  · rename_i dd cd sl ho
    split at h1
    · rename_i C' bm k0 k1 k2 k3 n k5 hm hs
      obtain ⟨a1, h1⟩ := ba h1
      obtain ⟨a2, h1⟩ := ba h1
      obtain ⟨a3, h1⟩ := ba h1
      obtain ⟨a4, a5⟩ := ba h1
      have a1 := of_decide_eq_true a1
      have a2 := of_decide_eq_true a2
      subst a1 a2
      obtain ⟨nm, bs, mro, ns, qn, hd, sn, sub, ab, col, del⟩ := cd
      dsimp only at hm a3 a4
      have a3 : del = false := by simpa using a3
      subst hm a3 a4
      have hsl : sl = #[k0, k1, k2, k3, some (.builtin "ValueError.__new__"), k5] := by
        obtain ⟨l⟩ := sl
        simp only at hs
        rw [hs]
      subst hsl
      exact ⟨nm, qn, ns, bs, bm, sn, sub, ab, col, dd, k0, k1, k2, k3, k5, ho, a5⟩
    · cases h1
  · cases h1
/-- an own error class x of the attributes fs: all that is asked -/
structure ErrC (K : PySem.W.Frag) (x : Str) (fs : List Str) : Prop where
  o : OexC K (ga K x)
  i : PySem.W.findIn K (.ref (ga K x)) "__init__" = some (some (.ref (ma K (ga K x) "__init__")))
  t : PySem.W.typeIn K (.ref (ma K (ga K x) "__init__")) = some (.type "function")
  f : ∀ y ∈ fs, PySem.W.findIn K (.ref (ga K x)) y = some none
  x : XfC K (ga K x)
def errB (K : PySem.W.Frag) (x : Str) (fs : List Str) : Bool := oexB K (ga K x) && (decide (PySem.W.findIn K (.ref (ga K x)) "__init__" = some (some (.ref (ma K (ga K x) "__init__")))) && (decide (PySem.W.typeIn K (.ref (ma K (ga K x) "__init__")) = some (.type "function")) &&
  (xfB K (ga K x) && fs.all fun y => decide (PySem.W.findIn K (.ref (ga K x)) y = some none))))
theorem errB_ok {K : PySem.W.Frag} {x : Str} {fs : List Str} (h : errB K x fs = true) : ErrC K x fs := by
  unfold errB at h
  obtain ⟨h1, h⟩ := ba h
  obtain ⟨h2, h⟩ := ba h
  obtain ⟨h3, h⟩ := ba h
  obtain ⟨h4, h5⟩ := ba h
  exact ⟨oexB_ok h1, of_decide_eq_true h2, of_decide_eq_true h3, fun y hy => of_decide_eq_true (List.all_eq_true.mp h5 y hy), xfB_ok h4⟩
def biniB (K : PySem.W.Frag) (x : Str) : Bool := decide (PySem.W.specialIn K (.ref (ga K x)) "__getattribute__" = some (some (.builtin "type.__getattribute__"))) && (PySem.W.readsIn K (ga K x) (.type "type") &&
  (match PySem.W.findCls K (.ref (ga K x)) (.type "type") "__init__" with
    | some (.val (.builtin n)) => decide (n = "ValueError.__init__")
    | _ => false))
theorem biniB_ok {K : PySem.W.Frag} {mg : Str → Option Value} {x : Str} (h : biniB K x = true) (hm : mg x = some (.ref (ga K x))) : BIni K mg x (ga K x) := by
  unfold biniB at h
  obtain ⟨h1, h⟩ := ba h
  obtain ⟨h2, h3⟩ := ba h
  refine ⟨hm, of_decide_eq_true h1, h2, ?_⟩
  split at h3
  · rename_i n e
    rw [e, of_decide_eq_true h3]
  · cases h3
/-! ### the Hook: the own names' reach and the interpreter's statics -/
def seenY (g : Addr → Option Obj) (n : Nat) : PySem.W.Frag := frT g (asD g n ++ [cStatics])
abbrev AlY : Type := AlD × Bool
def obsY (n : Nat) (fa : List Fa) (fn : List DefD) (tf : List Defn) (ex : PySem.W.Frag → Bool) (g : Addr → Option Obj) : AlY := (obsD fa fn (seenY g n), ex (seenY g n) && tabsB g tf (seenY g n))
structure ToldY (fa : List Fa) (fn : List DefD) (tf : List Defn) (ex : PySem.W.Frag → Bool) (h : Heap) (K : PySem.W.Frag) : Prop where
  d : SaysD fa fn K
  e : ex K = true
  hd : ∀ p ∈ tf, PySem.W.codeHdIn K (cT K p).1 (cT K p).2 = true
  out : ∀ p ∈ tf, K.lookup (cT K p).2 = none
  nil : ∀ p ∈ tf, h.get? (cT K p).2 = some { cls := .none, data := .fields #[] }
theorem toldY_of {n : Nat} {fa : List Fa} {fn : List DefD} {tf : List Defn} {ex : PySem.W.Frag → Bool} {h : Heap} (e : obsY n fa fn tf ex h.get? = (valD fn, true)) : ToldY fa fn tf ex h (seenY h.get? n) := by
  obtain ⟨z1, z2⟩ := ba (show (ex (seenY h.get? n) && tabsB h.get? tf (seenY h.get? n)) = true from congrArg (fun z : AlY => z.2) e)
  have one : ∀ p ∈ tf, PySem.W.codeHdIn (seenY h.get? n) (cT (seenY h.get? n) p).1 (cT (seenY h.get? n) p).2 = true ∧ ∃ o, h.get? (cT (seenY h.get? n) p).2 = some o ∧ emptyTab o = true := fun p hp => by
    obtain ⟨a, b⟩ := ba (List.all_eq_true.mp z2 p hp)
    refine ⟨a, ?_⟩
    split at b
    · rename_i o q; exact ⟨o, q, b⟩
    · cases b
  exact ⟨congrArg (fun z : AlY => z.1) e, z1, fun p hp => (one p hp).1, fun p hp => let ⟨_, o, q, y⟩ := one p hp; frT_none q y, fun p hp => by
    obtain ⟨_, o, q, y⟩ := one p hp
    rw [q, emptyTab_eq y]⟩
def hookY (n : Nat) (fa : List Fa) (fn : List DefD) (tf : List Defn) (ex : PySem.W.Frag → Bool) : PySem.W.Hook where
  α := AlY
  obs := fun s => obsY n fa fn tf ex s.heap.get?
  val := fun _ => (valD fn, true)
  says := fun _ h => ∃ K : PySem.W.Frag, K.In h ∧ ToldY fa fn tf ex h K
  of := fun _ _ e => ⟨_, frT_in, toldY_of e⟩
  keeps := fun _ _ _ ⟨K, hK, c⟩ k => ⟨K, PySem.W.Frag.In.keeps hK k, ⟨c.d, c.e, c.hd, c.out, fun p hp => k _ _ (c.nil p hp)⟩⟩
theorem obsY_eq {n : Nat} {fa : List Fa} {fn : List DefD} {tf : List Defn} {ex : PySem.W.Frag → Bool} {g : Addr → Option Obj} {s : Shared} (h : ∀ a, g a = s.heap.get? a) : obsY n fa fn tf ex g = (hookY n fa fn tf ex).obs s := by
  have e : g = s.heap.get? := funext h
  subst e
  rfl
end Vl
end
section
set_option Elab.async false
set_option linter.all false
set_option maxRecDepth 100000
set_option maxHeartbeats 1000000
/-! V18: the row's walk from the law's function. -/
namespace Vl
open PySem PySem.Spec PyProof.Rows L2
open LamX (TabB)
def LawV (l : PySem.W.OpenLaw) (w : World) (K : PySem.W.Frag) (k n : Nat) (x : Str) (mg : Str → Option Value) (f : Addr) (h : Heap) : Prop :=
  ∃ (fd : FuncData) (c P : Addr) (q : Str) (ec : Str → Addr) (Fn : List W → Store → Res W), h.get? P = some { cls := .none, data := .fields #[] } ∧ K.lookup P = none ∧ PySem.W.CodeHd h c P ∧ (∀ (s : Shared) (u : Value), BindsTo s fd ⟨[u], []⟩ [(x, u)]) ∧
    (∀ ns : List Int, ns.length ≤ n → ∃ st', Fn [.scr (ns.map W.int)] [.tab P q] = .ok (.bl true) st') ∧ ∀ base : Heap, K.In base → base.Ns mainGlobals mg → TabB base mg c P → FnG l.prog w K mg base k f fd [x] (spV K ec 1 Fn)
theorem no_end {P : Program} {w : World} {H : Hp} {s : Shared} {e : Value} {s' : Shared} (h : L2.CX P w [] H s (fun _ _ _ => False) e s') : False := by
  obtain ⟨_, _, _, _, _, _, _, _, _, _, _, _, z⟩ := h
  exact z
theorem start_rel {K : PySem.W.Frag} {G : Hp} {P a : Addr} {q : Str} {ns : List Int} (hP : G P = some (.tbl #[])) (hS : SqL K G a (ns.map V.int)) :
    ∃ R, RW K R [P] (.scr (ns.map W.int)) (.ref a) ∧ HRel K R [P] [.tab P q] G := by
  refine ⟨fun b => match G b with
    | some (.tbl _) => none
    | o => o, .scr ?_ (rws_ints ns), ?_⟩
  · rcases hS with (hS | ⟨o, hS⟩) | hS
    · refine .inl (.inl ?_)
      simp only [hS]
    · refine .inl (.inr ⟨o, ?_⟩)
      simp only [hS]
    · exact .inr hS
  · exact {
      sub := fun b o e => by
        split at e
        · cases e
        · exact e
      dis := fun b hb => by
        rw [List.mem_singleton.mp hb]
        simp only [hP]
      nd := by simp
      len := rfl
      at_ := fun i b m e1 e2 => by
        match i with
        | 0 =>
          cases e1; cases e2
          exact ⟨_, hP⟩
        | i + 1 => simp at e1
      ntb := fun b ps e => by
        split at e
        · cases e
        · rename_i h; exact h _ e
      tbs := fun i b P' q' e1 e2 => by
        match i with
        | 0 =>
          cases e1; cases e2
          exact ⟨rfl, LamX.TabS.nil hP⟩
        | i + 1 => simp at e1 }
theorem walkV {l : PySem.W.OpenLaw} {n k : Nat} {q : Program} {loose : List Str} {XP : (Str → Option Value) → Heap → Prop} {YP : World → Heap → Prop} {d : DefRec} {x : Str} (hn : l.most = some n) (hn2 : n ≤ sizeLine) (hdf : d.params.defaults = []) (hr : Room k callerA)
    (F : ∀ (w : World) (mg : Str → Option Value) (f : Addr) (h : Heap), YP w h → h.Ns mainGlobals mg → mg d.name = some (.ref f) → ∃ K : PySem.W.Frag, K.In h ∧ LawV l w K k n x mg f h) :
    PySem.W.WalkO q loose XP YP l.row.toRowW d [] (fun f vs => PySem.call f vs) := by
  refine Att.attach_callB hn hdf fun w s0 s1 mg mb f o pm cd doc a vs ns G Y ho hd hcd hmg hobj hints hlen hbits hg => ?_
  obtain ⟨K, hK, fd, c, P, q, ec, Fn, t1, t2, t3, hb, truth, hF⟩ := F w mg f _ Y G.T.g hmg
  refine law_run (cs := [(c, P)]) hK G.T.g G.T.b G.T.builtins G.T.nolimit hg (fun p hp => ?_) (fun p hp => ?_) (fun p hp => ?_) G.T.bmain hobj hints (Nat.le_trans hlen hn2) hr (fun base h1 h2 h3 => hF base h1 h2 (h3 _ (List.mem_singleton.mpr rfl))) hb (fun Gh gT gS gO => ?_) fun Gh e s' z => no_end z
  · rw [List.mem_singleton.mp hp]; exact t1
  · rw [List.mem_singleton.mp hp]; exact t2
  · rw [List.mem_singleton.mp hp]; exact t3
  · obtain ⟨R, r1, r2⟩ := start_rel (q := q) (gT _ (List.mem_singleton.mpr rfl)) gS
    obtain ⟨st', e⟩ := truth ns hlen
    refine ⟨R, [P], [.scr (ns.map W.int)], [.tab P q], .cons r1 .nil, rfl, r2, ?_⟩
    rw [e]
    intro R' μ' H' A v rv
    cases rv
    rfl
end Vl
end
section
set_option Elab.async false
set_option linter.all false
set_option maxRecDepth 100000
set_option maxHeartbeats 1000000
/-! V19: the rules as the printed derivations use them. -/
namespace Vl
open PySem PySem.Spec PyProof.Rows L2 He
theorem room65 {k : Nat} {A : Around} (r : Room k A) : A.units + 65 < cLine := by have := r.un; omega
theorem room1 {k : Nat} {A : Around} (r : Room k A) : A.units + 1 < cLine := by have := r.un; omega
theorem room70 {k : Nat} {A : Around} (r : Room k A) : A.units + 70 < cLine := by have := r.un; omega
section
variable {P : Program} {w : World} {K : PySem.W.Frag} {mg : Str → Option Value} {base : Heap} {N : List Str} {qual : Str} {scope : Scope} {f : Addr} {cd : Value} {A : Around} {outer : List Env} {s : Shared} {H : Hp} {E : XK}
theorem takes_cx : Takes (cxOf (L2.CX P w) P w K mg base N qual scope f cd A outer s H E) (wE E) := takes_of rfl rfl rfl rfl
theorem owns_cx : PassesOwn (model P w) (cxOf (L2.CX P w) P w K mg base N qual scope f cd A outer s H E).A (cxOf (L2.CX P w) P w K mg base N qual scope f cd A outer s H E).env (cxOf (L2.CX P w) P w K mg base N qual scope f cd A outer s H E).xe := passes_of (X := cxOf (L2.CX P w) P w K mg base N qual scope f cd A outer s H E) rfl
end
theorem takes_lam {X : Cx} {A : Around} {outer : List Env} {s : Shared} {H : Hp} {E : XK} {scope : Scope} {f c : Addr} : Takes (LamX.lamCx X A outer s H E scope f c) (wE E) := takes_of rfl rfl rfl rfl
theorem takes_no {X : Cx} : Takes X noW := fun _ _ ⟨_, _, _, _, _, _, _, _, _, _, _, _, _, _, _, _, z⟩ => z.elim
/-! ### a def by its name -/
structure Df (P : Program) (w : World) (K : PySem.W.Frag) (mg : Str → Option Value) (base : Heap) (k : Nat) (x : Str) (ps : List Str) (F : List W → Store → Res W) : Prop where
  fn : ∃ fd, FnOk P w K mg base (L2.CX P w) k (ga K x) fd ps (spV K (ga K) ps.length F) ∧ Binds K fd ps []
  kp : PySem.W.keepIn K (.ref (ga K x)) = true
  gl : mg x = some (.ref (ga K x))
structure DfG (P : Program) (w : World) (K : PySem.W.Frag) (mg : Str → Option Value) (base : Heap) (k : Nat) (x : Str) (ps : List Str) (F : List W → Store → Res W) : Prop where
  fn : ∃ fd, FnG P w K mg base k (ga K x) fd ps (spV K (ga K) ps.length F) ∧ Binds K fd ps []
  kp : PySem.W.keepIn K (.ref (ga K x)) = true
  gl : mg x = some (.ref (ga K x))
def fBad : List W → Store → Res W := fun _ _ => .bad
def eBad : EvE := fun _ _ => .bad
def aBad : EvA := fun _ _ => .bad
def sBad : EvS := fun _ _ => .bad
def bBad : EvT := fun _ _ => .bad
section
variable {X : Cx} {ec : Str → Addr} {Wx : WX} {E : XK} {pos p p2 pos' : Pos} {e a b : Expr} {es : List Expr} {fes : EvA} {fa fb : EvE} {st : Stmt} {sts : List Stmt}
theorem pv_bad : PV X ec Wx e eBad := ⟨fun pins s σ H Q I ⟨R, μ, env, st, he, hh, hp⟩ => hp.elim⟩
theorem ptv_bad : PTV X ec Wx e bBad := ⟨fun pins s σ H Q I ⟨R, μ, env, st, he, hh, hp⟩ => hp.elim⟩
theorem pvs_bad1 : PVS X ec E st sBad := ⟨fun pins s σ H Q I ⟨R, μ, env, st, he, hh, hp⟩ => hp.elim⟩
theorem pvs_bad : PVSs X ec E sts sBad := ⟨fun pins s σ H Q I ⟨R, μ, env, st, he, hh, hp⟩ => hp.elim⟩
theorem pv_callO {k j n : Nat} {ps : List Str} {F : List W → Store → Res W} {x : Str} (D : Df X.prog X.w X.K X.mg X.base k x ps F) (hr : Room j X.A) (hk : k ≤ j) (hg : Gl X x) (tk : Takes X Wx) (ha : PAV X (ga X.K) Wx (e :: es) fes) (hn : ps.length = n := by rfl) (hdb : (x == ("__debug__" : Str)) = false := by decide)
    (he : starEach (e :: es) X.env = (false, eval e X.env) :: starEach es X.env := by rfl) (hpl : (backTo pos (starEach es X.env)).any (·.1) = false := by rfl) : PV X (ga X.K) Wx (.Call (.Name x p) (e :: es) [] pos) (eCall n F fes) := by
  subst hn
  obtain ⟨fd, G, b⟩ := D.fn
  exact pv_call G (hr.mono hk) hg D.gl D.kp b tk ha hdb he hpl
theorem pv_callGO {k j n : Nat} {ps : List Str} {F : List W → Store → Res W} {x : Str} (D : DfG X.prog X.w X.K X.mg X.base k x ps F) (hgd : X.A.guards = some []) (hr : Room j X.A) (hk : k ≤ j) (hg : Gl X x) (tk : Takes X Wx) (ha : PAV X (ga X.K) Wx (e :: es) fes) (hn : ps.length = n := by rfl)
    (hdb : (x == ("__debug__" : Str)) = false := by decide) (he : starEach (e :: es) X.env = (false, eval e X.env) :: starEach es X.env := by rfl) (hpl : (backTo pos (starEach es X.env)).any (·.1) = false := by rfl) : PV X (ga X.K) Wx (.Call (.Name x p) (e :: es) [] pos) (eCall n F fes) := by
  subst hn
  obtain ⟨fd, G, b⟩ := D.fn
  exact pv_callG G hgd (hr.mono hk) hg D.gl D.kp b tk ha hdb he hpl
/-- with defaults behind -/
def eCallD (n : Nat) (F : List W → Store → Res W) (ds : List W) (fes : EvA) : EvE := fun env st => (fes env st).bind fun ws st1 => if (ws ++ ds).length = n then F (ws ++ ds) st1 else .bad
theorem pv_callD {k j : Nat} {x : Str} {fd : FuncData} {ps : List Str} {F : List W → Store → Res W} {bs : List Bool} {dv : List Value} (G : FnOk X.prog X.w X.K X.mg X.base (L2.CX X.prog X.w) k (ga X.K x) fd ps (spV X.K (ga X.K) ps.length F)) (hb : Binds X.K fd ps dv) (hd : Vals (bs.map V.bl) dv)
    (kp : PySem.W.keepIn X.K (.ref (ga X.K x)) = true) (gl : X.mg x = some (.ref (ga X.K x))) (hr : Room j X.A) (hk : k ≤ j) (hg : Gl X x) (tk : Takes X Wx) (ha : PAV X (ga X.K) Wx (e :: es) fes) (hdb : (x == ("__debug__" : Str)) = false := by decide)
    (he : starEach (e :: es) X.env = (false, eval e X.env) :: starEach es X.env := by rfl) (hpl : (backTo pos (starEach es X.env)).any (·.1) = false := by rfl) : PV X (ga X.K) Wx (.Call (.Name x p) (e :: es) [] pos) (eCallD ps.length F (bs.map W.bl) fes) :=
  (pe_callSD (E := WE Wx) G (hr.mono hk) hg gl kp hb hd (fun σ => passAt tk σ) ha hdb he hpl).imp fun σ H Q ⟨R, μ, env, st, henv, hh, hp⟩ => av_stepG henv hh hp fun ws st1 R1 μ1 H1 vs q1 he1 r hp1 => by
    have rb : ∀ l : List Bool, RWs X.K R1 μ1 (l.map W.bl) (l.map V.bl) := fun l => by
      induction l with
      | nil => exact .nil
      | cons b l ih => exact .cons (.bl b) ih
    by_cases hz : (ws ++ bs.map W.bl).length = ps.length
    · rw [if_pos hz] at hp1
      exact ⟨R1, μ1, ws ++ bs.map W.bl, st1, r.append (rb bs), by rw [← (r.append (rb bs)).length]; exact hz, q1.h, hp1⟩
    · rw [if_neg hz] at hp1; exact hp1.elim
/-! ### the module's names -/
theorem pv_gI {x : Str} {i : Int} (hg : Gl X x) (hm : ∃ t, X.mg x = some (.int i t)) (hd : (x == ("__debug__" : Str)) = false := by decide) : PV X ec Wx (.Name x p) (eC (.int i)) := by
  obtain ⟨t, hm⟩ := hm
  exact pv_c (t := tC (.int i)) (pe_glob (v := .int i) hg hm ⟨t, rfl⟩ hd) fun _ _ => .int i
theorem pv_gS {x z : Str} (hg : Gl X x) (hm : ∃ t, X.mg x = some (.str z t)) (hd : (x == ("__debug__" : Str)) = false := by decide) : PV X ec Wx (.Name x p) (eC (.str z)) := by
  obtain ⟨t, hm⟩ := hm
  exact pv_c (t := tC (.str z)) (pe_glob (v := .str z) hg hm ⟨t, rfl⟩ hd) fun _ _ => .str z
theorem pv_gT {x : Str} {zs : List Str} (hg : Gl X x) (hm : X.mg x = some (.ref (ga X.K x))) (ht : tupB X.K x (zs.map Dv.str) = true) (hd : (x == ("__debug__" : Str)) = false := by decide) : PV X ec Wx (.Name x p) (eC (.tup (zs.map W.str))) :=
  pv_c (t := tC (.ref (ga X.K x))) (pe_glob (v := .ref (ga X.K x)) hg hm rfl hd) fun R μ => by
    have t := tupB_ok ht R
    rw [List.map_map] at t
    exact .tup t (rws_strs zs)
/-! ### powers -/
abbrev kPow := kIC (fun i j => decide (0 ≤ j ∧ j ≤ 1000000 ∧ i.natAbs < 2 ^ 64)) fun i j => .int (i ^ j.toNat)
theorem sem_pow {K : PySem.W.Frag} : Sem2 K (rI CPow fun i j => .int (i ^ j.toNat)) kPow := sem_ic (fun i j h => show 0 ≤ j ∧ j ≤ 1000000 ∧ i.natAbs < 2 ^ 64 from of_decide_eq_true h) fun _ _ _ _ => .int _
/-! ### errors -/
structure Er (P : Program) (w : World) (K : PySem.W.Frag) (mg : Str → Option Value) (base : Heap) (x : Str) (fs : List Str) : Prop where
  c : ErrC K x fs
  fn : ∃ fd, FnOk P w K mg base CX0 1 (ma K (ga K x) "__init__") fd ("self" :: fs) (spInit K (ga K x) fs) ∧ Binds K fd ("self" :: fs) []
  gl : mg x = some (.ref (ga K x))
theorem pv_raiseO {j : Nat} {x : Str} {fs : List Str} (D : Er X.prog X.w X.K X.mg X.base x fs) (hc : X.calm = true) (hr : Room j X.A) (hk : 2 ≤ j) (tk : Takes X (wE E)) (hg : Gl X x) (ha : PAV X (ga X.K) (wE E) (e :: es) fes) (hz : fs.length ≤ 100 := by decide) (hdb : (x == ("__debug__" : Str)) = false := by decide)
    (he : starEach (e :: es) X.env = (false, eval e X.env) :: starEach es X.env := by rfl) (hpl : (backTo pos (starEach es X.env)).any (·.1) = false := by rfl) : PVS X (ga X.K) E (.Raise (some (.Call (.Name x p) (e :: es) [] pos)) none pos') (sRaise x fs fes) := by
  obtain ⟨fd, G, b⟩ := D.fn
  exact pv_raise hc tk D.c.o rfl D.c.i D.c.t G (hr.mono hk) b hg D.gl ha hdb he hpl hz
/-! ### a lambda caught -/
theorem pv_caught {P : Addr} {x a q : Str} {g c : Addr} {k : Nat} {pg : Arguments} {bg : List Stmt} {sg : Scope} {dV kV doc pm cdv ct oc : Value} {an od : Option Addr} {osl : Array (Option Value)} {Ng : List Str} {T : List (Str × List Str)} {TK : Kinds} {f : EvE}
    {params : Arguments} {body : Expr} {scope : Scope} {lpos : Pos} (hg : Gl X x) (hm : X.mg x = some (.ref g)) (hk : PySem.W.keepIn X.K (.ref g) = true) (lk : X.K.lookup g = some ⟨oc, od, .func (PySem.W.fnOf x x pg bg sg dV kV doc pm an cdv ct), osl⟩) (hcg : PySem.W.codeIn X.K cdv x = true)
    (hb : L2.Binds X.K (PySem.W.fnOf x x pg bg sg dV kV doc pm an cdv ct) [a] []) (Sg : FnScope Ng [a] sg) (hNg : Ng[0]? = some a) (hva : Vis sg a) (hG : LamX.GivesTo X Ng x sg g cdv bg a q (TTc TK)) (TB : LamX.TabB X.base X.mg c P) (hcode : X.env.code = .ref c) (hq : X.env.qual ++ "<lambda>" = q)
    (hr : Room (k + 2) X.A) (L : LamX.LamS X.env.scope scope) (hdef : defaultsOf params X.env = ([], [])) (hbind : ∀ (q : Str) (cl : List (Str × Addr)) (pm cv ctv : Value), bindArgs (PySem.W.kla_fn "<lambda>" q params body scope cl pm cv ctv) ⟨[], []⟩ = pure [])
    (hT : ∀ n fl, T.lookup n = some fl → (ga X.K n, n, fl) ∈ TK)
    (hbody : ∀ (A : Around) (outer : List Env) (s : Shared) (H : Hp) (E : XK) (f' c' : Addr), Room k (A.deeper (LamX.lamEnv X scope s.heap.objs.size f' c')) → PV (LamX.lamCx X A outer s H E scope f' c') (ga X.K) (wE E) body f)
    (hdb : (x == ("__debug__" : Str)) = false := by decide) (hd : (a == ("__debug__" : Str)) = false := by decide) (hcd : (a == ("__classdict__" : Str)) = false := by decide) : PV X (ga X.K) Wx (.Call (.Name x p) [.Lambda params body scope lpos] [] pos) (eCaught P q T f) := by
  subst hq
  refine (LamX.pe_lamcall (T := [(P, X.env.qual ++ "<lambda>")]) (TT := TTc TK) (t := fun E => tEv X.K (ga X.K) (wE E) f) hg hm hk lk hcg hb Sg hNg hva hG TB hcode (List.mem_singleton.mpr rfl) (fun p hp _ => by rw [List.mem_singleton.mp hp]) hr L hdef hbind (fun A outer s H E f' c' hr2 => hbody A outer s H E f' c' hr2) hdb hd hcd).imp fun σ H Q h => caught_step hT h
end
end Vl
end
section
set_option Elab.async false
set_option linter.all false
set_option maxRecDepth 100000
set_option maxHeartbeats 1000000
/-! V20: each construct by one name. -/
namespace Vl
open PySem PySem.Spec PyProof.Rows L2 He
section
variable {K : PySem.W.Frag}
def kIsN (neg : Bool) : W → W → Store → Res W := fun a b st => match b with
  | .non => (match a with
    | .non => .ok (.bl (!neg)) st
    | _ => .ok (.bl neg) st)
  | _ => .bad
theorem non_of {R : Hp} {μ : List Addr} {w : W} {v : V} (r : RW K R μ w v) : decide (v = .non) = (match w with | .non => true | _ => false) := by
  cases r <;> simp
theorem sem_isN : Sem2 K (fun x y H Q => y = .non ∧ Q (.bl (decide (x = .non))) H) (kIsN false) := fun ec R μ st H E Q a b x y hh ra rb hp => by
  unfold kIsN at hp
  split at hp
  · cases rb
    refine ⟨rfl, ?_⟩
    rw [non_of ra]
    cases a <;> exact gv_now hp hh (.bl _)
  · exact hp.elim
theorem sem_notN : Sem2 K (fun x y H Q => y = .non ∧ Q (.bl (!decide (x = .non))) H) (kIsN true) := fun ec R μ st H E Q a b x y hh ra rb hp => by
  unfold kIsN at hp
  split at hp
  · cases rb
    refine ⟨rfl, ?_⟩
    rw [non_of ra]
    cases a <;> exact gv_now hp hh (.bl _)
  · exact hp.elim
end
section
variable {X : Cx} {ec : Str → Addr} {Wx : WX} {E : XK} {pos p p2 pos' apos cpos : Pos} {e a b c o : Expr} {es : List Expr} {fes : EvA} {fa fb fc : EvE}
def eNeg (f : EvE) : EvE := fun env st => (f env st).bind fun w st1 => match w with
  | .int i => .ok (.int (-i)) st1
  | _ => .bad
theorem pv_neg (h : PV X ec Wx a fa) : PV X ec Wx (.UnaryOp .USub a pos) (eNeg fa) :=
  (pe_un un_neg h).imp fun σ H Q ⟨R, μ, env, st, he, hh, hp⟩ => ev_step he hh hp fun w st1 R1 μ1 H1 v q1 he1 r hp1 => by
    cases r with
    | int i => exact ⟨i, rfl, gv_now hp1 q1.h (.int _)⟩
    | _ => exact hp1.elim
/-! ### operations -/
theorem r_add (ha : PV X ec Wx a fa) (hb : PV X ec Wx b fb) : PV X ec Wx (.BinOp a .Add b pos) (e2 kAdd fa fb) := pv_op2 op_add sem_add ha hb
theorem r_sub (ha : PV X ec Wx a fa) (hb : PV X ec Wx b fb) : PV X ec Wx (.BinOp a .Sub b pos) (e2 kSub fa fb) := pv_op2 op_sub sem_sub ha hb
theorem r_mul (ha : PV X ec Wx a fa) (hb : PV X ec Wx b fb) : PV X ec Wx (.BinOp a .Mult b pos) (e2 kMul fa fb) := pv_op2 op_mul sem_mul ha hb
theorem r_mod (ha : PV X ec Wx a fa) (hb : PV X ec Wx b fb) : PV X ec Wx (.BinOp a .Mod b pos) (e2 kMod fa fb) := pv_op2 op_mod sem_mod ha hb
theorem r_div (ha : PV X ec Wx a fa) (hb : PV X ec Wx b fb) : PV X ec Wx (.BinOp a .FloorDiv b pos) (e2 kDiv fa fb) := pv_op2 op_fdiv sem_div ha hb
theorem r_pow (ha : PV X ec Wx a fa) (hb : PV X ec Wx b fb) : PV X ec Wx (.BinOp a .Pow b pos) (e2 kPow fa fb) := pv_op2 op_pow sem_pow ha hb
theorem r_addS (ha : PV X ec Wx a fa) (hb : PV X ec Wx b fb) : PV X ec Wx (.BinOp a .Add b pos) (e2 kAddS fa fb) := pv_op2 op_add_str sem_addS ha hb
theorem r_cat (ha : PV X ec Wx a fa) (hb : PV X ec Wx b fb) : PV X ec Wx (.BinOp a .Add b pos) (e2 kCat fa fb) := pv_op2 op_cat sem_cat ha hb
theorem r_catT (ha : PV X ec Wx a fa) (hb : PV X ec Wx b fb) : PV X ec Wx (.BinOp a .Add b pos) (e2 kCatT fa fb) := pv_op2 op_catA sem_catT ha hb
theorem r_repS (ha : PV X ec Wx a fa) (hb : PV X ec Wx b fb) : PV X ec Wx (.BinOp a .Mult b pos) (e2 kRepS fa fb) := pv_op2 op_repS sem_repS ha hb
theorem r_repT (ha : PV X ec Wx a fa) (hb : PV X ec Wx b fb) : PV X ec Wx (.BinOp a .Mult b pos) (e2 kRepT fa fb) := pv_op2 (OpR.or2 op_repT1 op_repT) sem_repT ha hb
theorem r_ix (ha : PV X ec Wx a fa) (hb : PV X ec Wx b fb) (hp : PlainIx b := by intro _ _; rfl) : PV X ec Wx (.Subscript a b pos) (e2 kIx fa fb) := pv_ix ix_list sem_ixL ha hb hp
theorem r_ixT (ha : PV X ec Wx a fa) (hb : PV X ec Wx b fb) (hp : PlainIx b := by intro _ _; rfl) : PV X ec Wx (.Subscript a b pos) (e2 kIxT fa fb) := pv_ix ix_tup sem_ixT ha hb hp
theorem r_ixS (ha : PV X ec Wx a fa) (hb : PV X ec Wx b fb) (hp : PlainIx b := by intro _ _; rfl) : PV X ec Wx (.Subscript a b pos) (e2 kIxS fa fb) := pv_ix ix_str sem_ixS ha hb hp
theorem r_dget {k : Nat} (hr : Room k X.A) (ho : PV X ec Wx a fa) (hi : PV X ec Wx b fb) (hs : NoSl b := by intro _ _; rfl) : PV X ec Wx (.Subscript a b pos) (e2 kDGet fa fb) := pv_dget (room1 hr) ho hi hs
/-! ### comparisons: v: a value, t: a test -/
theorem v_eq (ha : PV X ec Wx a fa) (hb : PV X ec Wx b fb) (hm : behindInMarks .Eq b = false := by rfl) : PV X ec Wx (.Compare a [.Eq] [b] pos) (e2 (kEq false) fa fb) := pv_cmp op_eq sem_eq ha hb hm
theorem v_eqD {k : Nat} (hr : Room k X.A) (ha : PV X ec Wx a fa) (hb : PV X ec Wx b fb) (hm : behindInMarks .Eq b = false := by rfl) : PV X ec Wx (.Compare a [.Eq] [b] pos) (e2 (kEqD false) fa fb) := pv_cmp (op_eqD (by have := room65 hr; omega)) sem_eqD ha hb hm
theorem v_inT {k : Nat} (hr : Room k X.A) (ha : PV X ec Wx a fa) (hb : PV X ec Wx b fb) (hm : behindInMarks .In b = false := by rfl) : PV X ec Wx (.Compare a [.In] [b] pos) (e2 (kInT false) fa fb) := pv_cmp (op_inT (room65 hr)) (sem_inT false) ha hb hm
theorem v_le (ha : PV X ec Wx a fa) (hb : PV X ec Wx b fb) (hm : behindInMarks .LtE b = false := by rfl) : PV X ec Wx (.Compare a [.LtE] [b] pos) (e2 kLe fa fb) := pv_cmp op_le sem_le ha hb hm
theorem v_ne (ha : PV X ec Wx a fa) (hb : PV X ec Wx b fb) (hm : behindInMarks .NotEq b = false := by rfl) : PV X ec Wx (.Compare a [.NotEq] [b] pos) (e2 (kEq true) fa fb) := pv_cmp op_ne sem_ne ha hb hm
theorem v_neD {k : Nat} (hr : Room k X.A) (ha : PV X ec Wx a fa) (hb : PV X ec Wx b fb) (hm : behindInMarks .NotEq b = false := by rfl) : PV X ec Wx (.Compare a [.NotEq] [b] pos) (e2 (kEqD true) fa fb) := pv_cmp (op_neD (by have := room65 hr; omega)) sem_neD ha hb hm
theorem v_ninT {k : Nat} (hr : Room k X.A) (ha : PV X ec Wx a fa) (hb : PV X ec Wx b fb) (hm : behindInMarks .NotIn b = false := by rfl) : PV X ec Wx (.Compare a [.NotIn] [b] pos) (e2 (kInT true) fa fb) := pv_cmp (op_notInT (room65 hr)) (sem_inT true) ha hb hm
theorem v_lt (ha : PV X ec Wx a fa) (hb : PV X ec Wx b fb) (hm : behindInMarks .Lt b = false := by rfl) : PV X ec Wx (.Compare a [.Lt] [b] pos) (e2 kLt fa fb) := pv_cmp op_lt sem_lt ha hb hm
theorem v_gt (ha : PV X ec Wx a fa) (hb : PV X ec Wx b fb) (hm : behindInMarks .Gt b = false := by rfl) : PV X ec Wx (.Compare a [.Gt] [b] pos) (e2 kGt fa fb) := pv_cmp op_gt sem_gt ha hb hm
theorem v_ge (ha : PV X ec Wx a fa) (hb : PV X ec Wx b fb) (hm : behindInMarks .GtE b = false := by rfl) : PV X ec Wx (.Compare a [.GtE] [b] pos) (e2 kGe fa fb) := pv_cmp op_ge sem_ge ha hb hm
theorem t_eq (ha : PV X ec Wx a fa) (hb : PV X ec Wx b fb) (hm : behindInMarks .Eq b = false := by rfl) : PTV X ec Wx (.Compare a [.Eq] [b] pos) (eT (e2 (kEq false) fa fb)) := ptv_cmp op_eq sem_eq ha hb hm
theorem t_ne (ha : PV X ec Wx a fa) (hb : PV X ec Wx b fb) (hm : behindInMarks .NotEq b = false := by rfl) : PTV X ec Wx (.Compare a [.NotEq] [b] pos) (eT (e2 (kEq true) fa fb)) := ptv_cmp op_ne sem_ne ha hb hm
theorem t_eqD {k : Nat} (hr : Room k X.A) (ha : PV X ec Wx a fa) (hb : PV X ec Wx b fb) (hm : behindInMarks .Eq b = false := by rfl) : PTV X ec Wx (.Compare a [.Eq] [b] pos) (eT (e2 (kEqD false) fa fb)) := ptv_cmp (op_eqD (by have := room65 hr; omega)) sem_eqD ha hb hm
theorem t_neD {k : Nat} (hr : Room k X.A) (ha : PV X ec Wx a fa) (hb : PV X ec Wx b fb) (hm : behindInMarks .NotEq b = false := by rfl) : PTV X ec Wx (.Compare a [.NotEq] [b] pos) (eT (e2 (kEqD true) fa fb)) := ptv_cmp (op_neD (by have := room65 hr; omega)) sem_neD ha hb hm
theorem t_lt (ha : PV X ec Wx a fa) (hb : PV X ec Wx b fb) (hm : behindInMarks .Lt b = false := by rfl) : PTV X ec Wx (.Compare a [.Lt] [b] pos) (eT (e2 kLt fa fb)) := ptv_cmp op_lt sem_lt ha hb hm
theorem t_le (ha : PV X ec Wx a fa) (hb : PV X ec Wx b fb) (hm : behindInMarks .LtE b = false := by rfl) : PTV X ec Wx (.Compare a [.LtE] [b] pos) (eT (e2 kLe fa fb)) := ptv_cmp op_le sem_le ha hb hm
theorem t_gt (ha : PV X ec Wx a fa) (hb : PV X ec Wx b fb) (hm : behindInMarks .Gt b = false := by rfl) : PTV X ec Wx (.Compare a [.Gt] [b] pos) (eT (e2 kGt fa fb)) := ptv_cmp op_gt sem_gt ha hb hm
theorem t_ge (ha : PV X ec Wx a fa) (hb : PV X ec Wx b fb) (hm : behindInMarks .GtE b = false := by rfl) : PTV X ec Wx (.Compare a [.GtE] [b] pos) (eT (e2 kGe fa fb)) := ptv_cmp op_ge sem_ge ha hb hm
theorem t_inT {k : Nat} (hr : Room k X.A) (ha : PV X ec Wx a fa) (hb : PV X ec Wx b fb) (hm : behindInMarks .In b = false := by rfl) : PTV X ec Wx (.Compare a [.In] [b] pos) (eT (e2 (kInT false) fa fb)) := ptv_cmp (op_inT (room65 hr)) (sem_inT false) ha hb hm
theorem t_ninT {k : Nat} (hr : Room k X.A) (ha : PV X ec Wx a fa) (hb : PV X ec Wx b fb) (hm : behindInMarks .NotIn b = false := by rfl) : PTV X ec Wx (.Compare a [.NotIn] [b] pos) (eT (e2 (kInT true) fa fb)) := ptv_cmp (op_notInT (room65 hr)) (sem_inT true) ha hb hm
theorem t_inL {k : Nat} (hr : Room k X.A) (ha : PV X ec Wx a fa) (hb : PV X ec Wx b fb) (hm : behindInMarks .In b = false := by rfl) : PTV X ec Wx (.Compare a [.In] [b] pos) (eT (e2 (kInL false) fa fb)) := ptv_cmp (op_inD (room65 hr)) sem_inL ha hb hm
theorem t_inS (ha : PV X ec Wx a fa) (hb : PV X ec Wx b fb) (hm : behindInMarks .In b = false := by rfl) : PTV X ec Wx (.Compare a [.In] [b] pos) (eT (e2 (kInS false) fa fb)) := ptv_cmp op_in_sign sem_inS ha hb hm
theorem t_ninS (ha : PV X ec Wx a fa) (hb : PV X ec Wx b fb) (hm : behindInMarks .NotIn b = false := by rfl) : PTV X ec Wx (.Compare a [.NotIn] [b] pos) (eT (e2 (kInS true) fa fb)) := ptv_cmp op_notIn_sign sem_notInS ha hb hm
theorem t_isN (ha : PV X ec Wx a fa) (hb : PV X ec Wx b fb) (hm : behindInMarks .Is b = false := by rfl) : PTV X ec Wx (.Compare a [.Is] [b] pos) (eT (e2 (kIsN false) fa fb)) := ptv_cmp op_isN sem_isN ha hb hm
theorem t_notN (ha : PV X ec Wx a fa) (hb : PV X ec Wx b fb) (hm : behindInMarks .IsNot b = false := by rfl) : PTV X ec Wx (.Compare a [.IsNot] [b] pos) (eT (e2 (kIsN true) fa fb)) := ptv_cmp op_notN sem_notN ha hb hm
theorem v_lele (ha : PV X ec Wx a fa) (hb : PV X ec Wx b fb) (hc : PV X ec Wx c fc) (hm : lastMarks [.LtE, .LtE] [b, c] = false := by with_unfolding_all rfl) : PV X ec Wx (.Compare a [.LtE, .LtE] [b, c] pos) (eChain kLe kLe fa fb fc) := pv_chain op_le op_le sem_le sem_le ha hb hc hm
theorem t_lele (ha : PV X ec Wx a fa) (hb : PV X ec Wx b fb) (hc : PV X ec Wx c fc) (hm : lastMarks [.LtE, .LtE] [b, c] = false := by with_unfolding_all rfl) : PTV X ec Wx (.Compare a [.LtE, .LtE] [b, c] pos) (eT (eChain kLe kLe fa fb fc)) := ptv_chain op_le op_le sem_le sem_le ha hb hc hm
/-! ### built-ins -/
theorem c_len (hg : Gl X "len") (hm : X.mg "len" = none) (ha : PV X ec Wx e fa) (he : starEach [e] X.env = (false, eval e X.env) :: starEach [] X.env := by rfl) : PV X ec Wx (.Call (.Name "len" p) [e] [] pos) (eCB kLen (aCons fa aNil)) := pv_callB call_len sem_len hg hm rfl (pav_cons ha pav_nil he) (by decide) (by decide) he rfl
theorem c_repr {k : Nat} (hgd : X.A.guards = some []) (hr : Room k X.A) (hg : Gl X "repr") (hm : X.mg "repr" = none) (ha : PV X ec Wx e fa) (he : starEach [e] X.env = (false, eval e X.env) :: starEach [] X.env := by rfl) : PV X ec Wx (.Call (.Name "repr" p) [e] [] pos) (eCB kRepr (aCons fa aNil)) := pv_callB (call_repr hgd (room70 hr)) sem_repr hg hm rfl (pav_cons ha pav_nil he) (by decide) (by decide) he rfl
theorem c_tuple (hg : Gl X "tuple") (hm : X.mg "tuple" = none) (ha : PV X ec Wx e fa) (he : starEach [e] X.env = (false, eval e X.env) :: starEach [] X.env := by rfl) : PV X ec Wx (.Call (.Name "tuple" p) [e] [] pos) (eCB kTuple (aCons fa aNil)) := pv_callTy call_tuple_of sem_tuple hg hm boot_tuple (pav_cons ha pav_nil he) (by decide) (by decide) he rfl
theorem c_list (hg : Gl X "list") (hm : X.mg "list" = none) (ha : PV X ec Wx e fa) (he : starEach [e] X.env = (false, eval e X.env) :: starEach [] X.env := by rfl) : PV X ec Wx (.Call (.Name "list" p) [e] [] pos) (eCB kList (aCons fa aNil)) := pv_callTy call_list_of sem_list hg hm boot_list (pav_cons ha pav_nil he) (by decide) (by decide) he rfl
theorem c_int (hg : Gl X "int") (hm : X.mg "int" = none) (ha : PV X ec Wx e fa) (he : starEach [e] X.env = (false, eval e X.env) :: starEach [] X.env := by rfl) : PV X ec Wx (.Call (.Name "int" p) [e] [] pos) (eCB kInt (aCons fa aNil)) := pv_callTy call_int1 sem_int hg hm boot_int (pav_cons ha pav_nil he) (by decide) (by decide) he rfl
theorem c_intS (hg : Gl X "int") (hm : X.mg "int" = none) (ha : PV X ec Wx e fa) (he : starEach [e] X.env = (false, eval e X.env) :: starEach [] X.env := by rfl) : PV X ec Wx (.Call (.Name "int" p) [e] [] pos) (eCB kIntS (aCons fa aNil)) := pv_callTy call_int_str sem_intS hg hm boot_int (pav_cons ha pav_nil he) (by decide) (by decide) he rfl
theorem c_str (hg : Gl X "str") (hm : X.mg "str" = none) (ha : PV X ec Wx e fa) (he : starEach [e] X.env = (false, eval e X.env) :: starEach [] X.env := by rfl) : PV X ec Wx (.Call (.Name "str" p) [e] [] pos) (eCB kStr (aCons fa aNil)) := pv_callTy call_str_int sem_str hg hm boot_str (pav_cons ha pav_nil he) (by decide) (by decide) he rfl
theorem c_dict (hg : Gl X "dict") (hm : X.mg "dict" = none) (ha : PV X ec Wx e fa) (he : starEach [e] X.env = (false, eval e X.env) :: starEach [] X.env := by rfl) : PV X ec Wx (.Call (.Name "dict" p) [e] [] pos) (eCB kDict (aCons fa aNil)) := pv_callTy call_dictD sem_dict hg hm boot_dict (pav_cons ha pav_nil he) (by decide) (by decide) he rfl
theorem c_isi (T : Str) (n : String) (hT : bootBuiltins T = some (.type n)) (hin : n ∈ ["bool", "int", "str", "tuple", "list"]) (hg : Gl X "isinstance") (hm : X.mg "isinstance" = none) (hg2 : Gl X T) (hm2 : X.mg T = none) (ha : PV X ec Wx a fa) (hn : T ≠ "__name__" := by decide) (hdb : (T == ("__debug__" : Str)) = false := by decide)
    (he : starEach [a, .Name T p2] X.env = (false, eval a X.env) :: starEach [.Name T p2] X.env := by rfl) (he2 : starEach [.Name T p2] X.env = (false, eval (.Name T p2) X.env) :: starEach [] X.env := by rfl) : PV X ec Wx (.Call (.Name "isinstance" p) [a, .Name T p2] [] pos) (eIsi n fa) := pv_isi hT hin hg hm hg2 hm2 ha hn hdb he he2 rfl
/-! ### a text's signs -/
def signsW (z : Str) : List W := z.cps.toList.map fun c => .str ⟨#[c]⟩
def iS (f : EvE) : EvI := fun env st => (f env st).bind fun w st1 => match w with
  | .str z => .ok (signsW z) st1
  | _ => .bad
theorem signs_get {z : Str} {i : Nat} {w : W} (h : (signsW z)[i]? = some w) : ∃ c, z.cps[i]? = some c ∧ w = .str ⟨#[c]⟩ := by
  unfold signsW at h
  rw [List.getElem?_map, Array.getElem?_toList] at h
  cases e : z.cps[i]? with
  | none => rw [e] at h; cases h
  | some c => rw [e] at h; exact ⟨c, rfl, (Option.some.inj h).symm⟩
theorem piv_str {tg : Expr} (h : PV X ec Wx e fa) : PIV X ec Wx tg e (iS fa) :=
  PI_imp (pi_str h) fun σ H Q ⟨R, μ, env, st, he, hh, hp⟩ => ev_stepG he hh hp fun w st1 R1 μ1 H1 v q1 he1 r hp1 => by
    cases r with
    | str z =>
      refine ⟨z, rfl, hp1.now q1.h _ ⟨fun R' μ' st H i w g hh e => ?_, fun R' μ' st H i w x H' g hh e y => ?_, fun R' μ' st H g hh => ?_⟩⟩
      · obtain ⟨c, e1, _⟩ := signs_get e
        exact (Array.getElem?_eq_some_iff.mp e1).1
      · obtain ⟨e1, c, e2, e3⟩ := y
        obtain ⟨c', e4, e5⟩ := signs_get e
        rw [e2] at e4
        cases e4
        subst e1 e3 e5
        exact ⟨R', .refl hh, .str _⟩
      · show z.cps.size ≤ _
        unfold signsW
        simp
    | _ => exact hp1.elim
/-! ### names -/
theorem vr (i : Nat) {x : Str} (hN : X.N[i]? = some x := by rfl) (hv : Vis X.env.scope x := by first | exact Or.inl rfl | exact Or.inr (Or.inl rfl) | exact Or.inr (Or.inr rfl)) (hd : (x == ("__debug__" : Str)) = false := by decide) (hcd : (x == ("__classdict__" : Str)) = false := by decide) : PV X ec Wx (.Name x pos) (eVar i) := pv_var hN hv hd hcd
theorem st_ (i : Nat) {x : Str} (hN : X.N.Nodup) (he : PV X ec (wE E) e fa) (hi : X.N[i]? = some x := by rfl) (hx : Loc X.env.scope x := by first | exact Or.inl rfl | exact Or.inr rfl) (hs : swapsWith e (some (.Name x pos')) pos.line X.env = pure false := by rfl) (hf : X.fn x = true ∨ X.env.scope.names.lookup x = some .local := by first | exact .inl rfl | exact .inr rfl) :
    PVS X ec E (.Assign [.Name x pos'] e pos) (sSet i fa) := pv_set hN hi hx he hs hf
theorem gn_ (i : Nat) {x : Str} (hN : X.N.Nodup) (hi : X.N[i]? = some x := by rfl) (hx : Loc X.env.scope x := by first | exact Or.inl rfl | exact Or.inr rfl) (hf : X.fn x = true ∨ X.env.scope.names.lookup x = some .local := by first | exact .inl rfl | exact .inr rfl) : PGV X ec E (.Name x pos) (gN i) := pgv_name hN hi hx hf
theorem pgn_ (i : Nat) {x : Str} (hN : X.N.Nodup) (hi : X.N[i]? = some x := by rfl) (hx : Loc X.env.scope x := by first | exact Or.inl rfl | exact Or.inr rfl) (hf : X.fn x = true ∨ X.env.scope.names.lookup x = some .local := by first | exact .inl rfl | exact .inr rfl) : PG X (.Name x pos) (gName i) := pg_name hN hi hx hf
/-! ### methods -/
theorem m_append (ho : PV X ec Wx o fa) (ha : PV X ec Wx e fb) (hbase : attributeBase o "append" X.env (eval o X.env) = eval o X.env := by rfl) (hline : (apos.endLine == cpos.line) = true := by rfl) (hfew : ((backTo cpos (starEach [e] X.env)).all (fun x => !x.1) && (backToKw cpos (keywordEach [] X.env)).all (fun x => x.1.isSome)
      && decide (([e] : List Expr).length + ([] : List Keyword).length + (if ([] : List Keyword).isEmpty then 0 else 1) < 30)) = true := by rfl) (he : starEach [e] X.env = (false, eval e X.env) :: starEach [] X.env := by rfl) :
    PV X ec Wx (.Call (.Attribute o "append" apos) [e] [] cpos) (eM isL kAppend fa (aCons fb aNil)) := pv_bm F.plainAttrs_list F.slot_list_append F.type_list_append mt_append tyok_list sem_append ho (pav_cons ha pav_nil he) hbase hfew hline he rfl
theorem m_pop (ho : PV X ec Wx o fa) (hbase : attributeBase o "pop" X.env (eval o X.env) = eval o X.env := by rfl) (hline : (apos.endLine == cpos.line) = true := by rfl) : PV X ec Wx (.Call (.Attribute o "pop" apos) [] [] cpos) (eM0 isL kPop fa) := pv_bm0 F.plainAttrs_list F.slot_list_pop F.type_list_pop mt_pop tyok_list sem_pop ho hbase hline
theorem m_split (ho : PV X ec Wx o fa) (ha : PV X ec Wx e fb) (hbase : attributeBase o "split" X.env (eval o X.env) = eval o X.env := by rfl) (hline : (apos.endLine == cpos.line) = true := by rfl) (hfew : ((backTo cpos (starEach [e] X.env)).all (fun x => !x.1) && (backToKw cpos (keywordEach [] X.env)).all (fun x => x.1.isSome)
      && decide (([e] : List Expr).length + ([] : List Keyword).length + (if ([] : List Keyword).isEmpty then 0 else 1) < 30)) = true := by rfl) (he : starEach [e] X.env = (false, eval e X.env) :: starEach [] X.env := by rfl) :
    PV X ec Wx (.Call (.Attribute o "split" apos) [e] [] cpos) (eM isS kSplit fa (aCons fb aNil)) := pv_bm F.plainAttrs_str F.slot_str_split F.type_str_split mt_split tyok_str sem_split ho (pav_cons ha pav_nil he) hbase hfew hline he rfl
theorem m_join (ho : PV X ec Wx o fa) (ha : PV X ec Wx e fb) (hbase : attributeBase o "join" X.env (eval o X.env) = eval o X.env := by rfl) (hline : (apos.endLine == cpos.line) = true := by rfl) (hfew : ((backTo cpos (starEach [e] X.env)).all (fun x => !x.1) && (backToKw cpos (keywordEach [] X.env)).all (fun x => x.1.isSome)
      && decide (([e] : List Expr).length + ([] : List Keyword).length + (if ([] : List Keyword).isEmpty then 0 else 1) < 30)) = true := by rfl) (he : starEach [e] X.env = (false, eval e X.env) :: starEach [] X.env := by rfl) :
    PV X ec Wx (.Call (.Attribute o "join" apos) [e] [] cpos) (eM isS kJoin fa (aCons fb aNil)) := pv_bm F.plainAttrs_str F.slot_str_join F.type_str_join mt_join tyok_str sem_join ho (pav_cons ha pav_nil he) hbase hfew hline he rfl
theorem m_starts (ho : PV X ec Wx o fa) (ha : PV X ec Wx e fb) (hbase : attributeBase o "startswith" X.env (eval o X.env) = eval o X.env := by rfl) (hline : (apos.endLine == cpos.line) = true := by rfl) (hfew : ((backTo cpos (starEach [e] X.env)).all (fun x => !x.1) && (backToKw cpos (keywordEach [] X.env)).all (fun x => x.1.isSome)
      && decide (([e] : List Expr).length + ([] : List Keyword).length + (if ([] : List Keyword).isEmpty then 0 else 1) < 30)) = true := by rfl) (he : starEach [e] X.env = (false, eval e X.env) :: starEach [] X.env := by rfl) :
    PV X ec Wx (.Call (.Attribute o "startswith" apos) [e] [] cpos) (eM isS kStarts fa (aCons fb aNil)) := pv_bm F.plainAttrs_str F.slot_str_startswith F.type_str_startswith mt_startswith tyok_str sem_starts ho (pav_cons ha pav_nil he) hbase hfew hline he rfl
theorem m_index (ho : PV X ec Wx o fa) (ha : PV X ec Wx e fb) (hbase : attributeBase o "index" X.env (eval o X.env) = eval o X.env := by rfl) (hline : (apos.endLine == cpos.line) = true := by rfl) (hfew : ((backTo cpos (starEach [e] X.env)).all (fun x => !x.1) && (backToKw cpos (keywordEach [] X.env)).all (fun x => x.1.isSome)
      && decide (([e] : List Expr).length + ([] : List Keyword).length + (if ([] : List Keyword).isEmpty then 0 else 1) < 30)) = true := by rfl) (he : starEach [e] X.env = (false, eval e X.env) :: starEach [] X.env := by rfl) :
    PV X ec Wx (.Call (.Attribute o "index" apos) [e] [] cpos) (eM isS kIndexS fa (aCons fb aNil)) := pv_bm F.plainAttrs_str F.slot_str_index F.type_str_index mt_sindex tyok_str sem_indexS ho (pav_cons ha pav_nil he) hbase hfew hline he rfl
end
/-! ### a comprehension's block, as a test -/
def blkB (N : List Str) (sc scope : Scope) (own : List (Str × Nat)) : Bool := decide (scope.kind = .function) && (scope.names.all fun y => decide (scope.names.lookup y.1 = some y.2)) && (own.all fun p => decide (N[p.2]? = some p.1)) &&
  (scope.names.all fun y => !decide (y.2 = .free) || decide (sc.names.lookup y.1 = some .cell) || decide (sc.names.lookup y.1 = some .free)) && (scope.names.all fun y => (!decide (y.2 = .local) && !decide (y.2 = .cell)) || (decide (y.1 ∈ own.map (·.1)) || !decide (y.1 ∈ N)))
theorem blk_by {N : List Str} {sc scope : Scope} {own : List (Str × Nat)} (h : blkB N sc scope own = true) : BlkOk N sc scope own := by
  unfold blkB at h
  simp only [Bool.and_eq_true, Bool.or_eq_true, Bool.not_eq_true', decide_eq_true_eq, decide_eq_false_iff_not, List.all_eq_true] at h
  obtain ⟨⟨⟨⟨h1, h2⟩, h3⟩, h4⟩, h5⟩ := h
  refine ⟨h1, h2, h3, fun y hy e => ?_, fun y hy e => ?_⟩
  · rcases h4 y hy with (z | z) | z
    · exact absurd e z
    · exact .inl z
    · exact .inr z
  · rcases h5 y hy with z | z | z
    · rcases e with e | e
      · exact absurd e z.1
      · exact absurd e z.2
    · exact .inl z
    · exact .inr z
/-! ### defs: with defaults; at no depth -/
section
variable {P : Program} {w : World} {K : PySem.W.Frag} {mg : Str → Option Value} {base : Heap} {ec : Str → Addr} {x qual : Str} {params : Arguments} {body : List Stmt} {scope : Scope} {f : Addr} {fd : FuncData} {dvs : List V}
theorem fnVd {N ps : List Str} {k : Nat} {g : EvS} (F : FunD K x qual params body scope dvs [] f fd) (S : FnScope N ps scope)
    (hb : ∀ (cdv : Value) (A : Around) (outer : List Env) (s : Shared) (H : Hp) (E : XK), Room k (A.deeper (envOfC qual scope s.heap.objs.size f cdv)) → PVSs (cxOf (L2.CX P w) P w K mg base N qual scope f cdv A outer s H E) ec E body g) :
    FnOk P w K mg base (L2.CX P w) (k + 1) f fd ps (spV K ec ps.length (defF N.length g)) := by
  refine F.ok S (fun vs H Q E ⟨_, _, _, _, _, h, _⟩ => h) fun cdv A outer s H vs Q E hr h => ⟨_, hb cdv A outer s H E hr, ?_⟩
  obtain ⟨R, μ, ws, st, rs, hl, hh, hp⟩ := h
  refine ⟨R, μ, startE N.length ws, st, startE_rel rs, hh, hp.seq.mono fun o st1 R1 μ1 H1 _ q => ?_⟩
  cases o with
  | nx env => exact fun σ' _ => q.2.now q.1.h _ .non
  | rt w => exact q.2.now q.1.h
  | bk env => exact q.2.elim
  | ct env => exact q.2.elim
theorem df_zero {N ps : List Str} {k : Nat} (h : ∃ fd, FunD K x x params body scope [] [] (ga K x) fd) (S : FnScope N ps scope)
    (hb : ∀ (kV doc pm : Value) (an : Option Addr) (cdv ct : Value) (us : List Value), us.length = ps.length → bindArgs (PySem.W.fnOf x x params body scope .none kV doc pm an cdv ct) ⟨us, []⟩ = pure (ps.zip us)) (gl : mg x = some (.ref (ga K x))) : Df P w K mg base k x ps fBad := by
  obtain ⟨fd, F⟩ := h
  refine ⟨⟨fd, ⟨fun vs H Q E ⟨_, _, _, _, _, h, _⟩ => h, fun A outer s H args us vs Q E _ _ _ _ ⟨_, _, _, _, _, _, _, hp⟩ => hp.elim⟩, F.bindsN hb⟩, F.kp, gl⟩
end
end Vl
end
section
set_option Elab.async false
set_option linter.all false
set_option maxRecDepth 100000
set_option maxHeartbeats 1000000
/-! V21: a def that makes lambdas: its code object is known. -/
namespace Vl
open PySem PySem.Spec PyProof.Rows L2 He
section
variable {P : Program} {w : World} {K : PySem.W.Frag} {mg : Str → Option Value} {base : Heap} {x qual : Str} {params : Arguments} {body : List Stmt} {scope : Scope} {fd : FuncData}
theorem fnGc {N ps : List Str} {k : Nat} {g : EvS} (F : FunD K x qual params body scope [] [] (ga K x) fd) (S : FnScope N ps scope)
    (hb : ∀ (cdv : Value) (A : Around) (outer : List Env) (s : Shared) (H : Hp) (E : XK), cdv = .ref (cT K (x, none)).1 → A.guards = some [] → Room k (A.deeper (envOfC qual scope s.heap.objs.size (ga K x) cdv)) →
      PVSs (cxOf (L2.CX P w) P w K mg base N qual scope (ga K x) cdv A outer s H E) (ga K) E body g) :
    FnG P w K mg base (k + 1) (ga K x) fd ps (spV K (ga K) ps.length (defF N.length g)) := by
  refine ⟨fun vs H Q E ⟨_, _, _, _, _, h, _⟩ => h, fun A outer s H args us vs Q E hg hr e0 hbd r h => ?_⟩
  obtain ⟨oc, od, dV, kV, doc, pm, an, cdv, ct, osl, rfl, lk, hcd, _, _⟩ := F.ex
  obtain ⟨c, rfl⟩ := codeIn_ref hcd
  have ec : (cT K (x, none)).1 = c := codeOf_eq (p := (x, none)) lk rfl
  have hl : vs.length = ps.length := let ⟨_, _, _, _, _, h, _⟩ := h; h
  refine LamX.run_ofS (CX := L2.CX P w) (k := k) lk hcd S (A := A) (outer := outer) (s := s) (H := H) (args := args) (us := us) (vs := vs) (Q := Q) (E := E) hr e0 hbd r hl fun hr' => ⟨_, hb (.ref c) A outer s H E (by rw [ec]) hg hr', ?_⟩
  obtain ⟨R, μ, ws, st, rs, hl, hh, hp⟩ := h
  refine ⟨R, μ, startE N.length ws, st, startE_rel rs, hh, hp.seq.mono fun o st1 R1 μ1 H1 _ q => ?_⟩
  cases o with
  | nx env => exact fun σ' _ => q.2.now q.1.h _ .non
  | rt w => exact q.2.now q.1.h
  | bk env => exact q.2.elim
  | ct env => exact q.2.elim
end
end Vl
end
section
set_option Elab.async false
set_option linter.all false
set_option maxRecDepth 100000
set_option maxHeartbeats 1000000
/-! Ev: the functions of V1 … V20, worked out one step at a time. -/
namespace Vl
open PySem
def fin (r : Res Out) : Res W := r.bind toF
section
variable {e : Env'} {st : Store} {f g : EvS} {t s : EvT} {fa fb fc : EvE} {A B : EvA} {i j : Int} {a b c : W} {ws zs : List W} {x y : Str}
theorem fin_rt : fin (.ok (.rt a) st) = .ok a st := rfl
theorem fin_nx : fin (.ok (.nx e) st) = .ok .non st := rfl
theorem fin_exc {cl : Str} {fs : List (Str × W)} : fin (.exc cl fs st) = .exc cl fs st := rfl
def thenS (g : EvS) : Res Out → Res Out
  | .ok (.nx e) st => g e st
  | r => r
theorem x_cons : sCons f g e st = thenS g (f e st) := by
  unfold sCons thenS
  cases f e st with
  | ok o st1 => cases o <;> rfl
  | exc c fs st1 => rfl
  | bad => rfl
theorem thenS_nx : thenS g (.ok (.nx e) st) = g e st := rfl
theorem thenS_rt : thenS g (.ok (.rt a) st) = .ok (.rt a) st := rfl
theorem thenS_ct : thenS g (.ok (.ct e) st) = .ok (.ct e) st := rfl
theorem thenS_exc {cl : Str} {fs : List (Str × W)} : thenS g (.exc cl fs st) = .exc cl fs st := rfl
theorem thenS_if {p : Prop} [Decidable p] {r q : Res Out} : thenS g (if p then r else q) = if p then thenS g r else thenS g q := by split <;> rfl
theorem fin_if {p : Prop} [Decidable p] {r q : Res Out} : fin (if p then r else q) = if p then fin r else fin q := by split <;> rfl
theorem x_nil : sNil e st = .ok (.nx e) st := rfl
theorem x_set {i : Nat} : sSet i fa e st = (fa e st).bind fun w st1 => .ok (.nx (e.set i (some w))) st1 := rfl
theorem x_expr : sExpr fa e st = (fa e st).bind fun _ st1 => .ok (.nx e) st1 := rfl
theorem x_ret : sRet fa e st = (fa e st).bind fun w st1 => .ok (.rt w) st1 := rfl
theorem x_if : sIf t f g e st = (t e st).bind fun b st1 => if b = true then f e st1 else g e st1 := rfl
theorem x_cont : sCont e st = .ok (.ct e) st := rfl
theorem x_asg {h : EvG} : sAsg fa h e st = (fa e st).bind fun w st1 => (h w e st1).bind fun e1 st2 => .ok (.nx e1) st2 := rfl
theorem x_par {i j : Nat} : sPar i j A e st = (A e st).bind fun ws st1 => match ws with
  | [w, z] => .ok (.nx ((e.set i (some w)).set j (some z))) st1
  | _ => .bad := rfl
theorem x_par3 {i j l : Nat} : sPar3 i j l A e st = (A e st).bind fun ws st1 => match ws with
  | [w, z, y] => .ok (.nx (((e.set i (some w)).set j (some z)).set l (some y))) st1
  | _ => .bad := rfl
theorem x_for {I : EvI} {h : EvG} : sFor I h f e st = (I e st).bind fun ws st1 => sLoop h f ws e st1 := rfl
def outL (k : Env' → Store → Res Out) : Out → Store → Res Out
  | .nx e, st => k e st
  | .ct e, st => k e st
  | .bk e, st => .ok (.nx e) st
  | .rt w, st => .ok (.rt w) st
theorem x_loop0 {h : EvG} : sLoop h f [] e st = .ok (.nx e) st := rfl
theorem x_loop {h : EvG} : sLoop h f (a :: ws) e st = (h a e st).bind fun e1 st1 => (f e1 st1).bind (outL (sLoop h f ws)) := by
  show ((h a e st).bind fun e1 st1 => (f e1 st1).bind _) = _
  congr 1
  funext e1 st1
  congr 1
  funext o st2
  cases o <;> rfl
theorem x_while {n : Nat} : sWhile (n + 1) t f e st = (t e st).bind fun b st1 => if b = true then (f e st1).bind (outL (sWhile n t f)) else .ok (.nx e) st1 := by
  show ((t e st).bind fun b st1 => if b = true then (f e st1).bind _ else _) = _
  congr 1
  funext b st1
  split
  · congr 1
    funext o st2
    cases o <;> rfl
  · rfl
theorem outL_nx {k : Env' → Store → Res Out} : outL k (.nx e) st = k e st := rfl
theorem outL_ct {k : Env' → Store → Res Out} : outL k (.ct e) st = k e st := rfl
theorem outL_rt {k : Env' → Store → Res Out} : outL k (.rt a) st = .ok (.rt a) st := rfl
theorem x_raise {cl : Str} {fs : List Str} : sRaise cl fs A e st = (A e st).bind fun ws st1 => if ws.length = fs.length then .exc cl (fs.zip ws).reverse st1 else .bad := rfl
def getV (st : Store) : Option (Option W) → Res W
  | some (some w) => .ok w st
  | _ => .bad
theorem x_var {i : Nat} : eVar i e st = getV st e[i]? := by
  unfold eVar getV
  rfl
theorem getV_some : getV st (some (some a)) = .ok a st := rfl
theorem x_c : eC a e st = .ok a st := rfl
theorem x_e2 {k : W → W → Store → Res W} : e2 k fa fb e st = (fa e st).bind fun a st1 => (fb e st1).bind fun b st2 => k a b st2 := rfl
theorem x_eT : eT fa e st = (fa e st).bind asB := rfl
theorem asB_bl {b : Bool} : asB (.bl b) st = .ok b st := rfl
theorem x_and : bAnd t s e st = (t e st).bind fun b st1 => if b = true then s e st1 else .ok false st1 := rfl
theorem x_or : bOr t s e st = (t e st).bind fun b st1 => if b = true then .ok true st1 else s e st1 := rfl
theorem x_not : bNot t e st = (t e st).bind fun b st1 => .ok (!b) st1 := rfl
theorem x_vand : vAnd fa fb e st = (fa e st).bind fun a st1 => (asB a st1).bind fun b st2 => if b = true then fb e st2 else .ok (.bl false) st2 := rfl
theorem x_vor : vOr fa fb e st = (fa e st).bind fun a st1 => (asB a st1).bind fun b st2 => if b = true then .ok (.bl true) st2 else fb e st2 := rfl
theorem x_vnot : vNot fa e st = (fa e st).bind fun a st1 => (asB a st1).bind fun b st2 => .ok (.bl (!b)) st2 := rfl
theorem x_ifE : eIf t fa fb e st = (t e st).bind fun b st1 => if b = true then fa e st1 else fb e st1 := rfl
theorem x_chain {k k' : W → W → Store → Res W} : eChain k k' fa fb fc e st = (fa e st).bind fun a st1 => (fb e st1).bind fun b st2 => (k a b st2).bind fun z st3 => (asB z st3).bind fun t st4 => if t = true then (fc e st4).bind fun c st5 => k' b c st5 else .ok (.bl false) st4 := rfl
theorem x_anil : aNil e st = .ok [] st := rfl
theorem x_acons : aCons fa A e st = (fa e st).bind fun w st1 => (A e st1).bind fun ws st2 => .ok (w :: ws) st2 := rfl
theorem x_tup : eTup A e st = (A e st).bind fun ws st1 => if small ws = true then .ok (.tup ws) st1 else .bad := rfl
theorem x_lst : eLst A e st = (A e st).bind fun ws st1 => if small ws = true then .ok (.lst ws) st1 else .bad := rfl
theorem x_lstM : eLstM A e st = (A e st).bind fun ws st1 => if small ws = true then .ok (.obj st1.length) (st1 ++ [.L ws]) else .bad := rfl
theorem x_call {n : Nat} {F : List W → Store → Res W} : eCall n F A e st = (A e st).bind fun ws st1 => if ws.length = n then F ws st1 else .bad := rfl
theorem x_callD {n : Nat} {F : List W → Store → Res W} : eCallD n F zs A e st = (A e st).bind fun ws st1 => if (ws ++ zs).length = n then F (ws ++ zs) st1 else .bad := rfl
theorem x_CB {k : List W → Store → Res W} : eCB k A e st = (A e st).bind fun ws st1 => k ws st1 := rfl
theorem x_M0 {c : W → Store → Bool} {k : W → List W → Store → Res W} : eM0 c k fa e st = (fa e st).bind fun a st1 => if c a st1 = true then k a [] st1 else .bad := rfl
theorem x_M {c : W → Store → Bool} {k : W → List W → Store → Res W} : eM c k fa A e st = (fa e st).bind fun a st1 => if c a st1 = true then (A e st1).bind fun ws st2 => k a ws st2 else .bad := rfl
theorem x_neg : eNeg fa e st = (fa e st).bind fun w st1 => match w with
  | .int i => .ok (.int (-i)) st1
  | _ => .bad := rfl
theorem x_isi {T : String} : eIsi T fa e st = (fa e st).bind fun w st1 => match tyName w with
  | some n => .ok (.bl (isT n T)) st1
  | none => .bad := rfl
theorem x_iL : iL fa e st = (fa e st).bind asL := rfl
theorem x_iT : iT fa e st = (fa e st).bind asT := rfl
theorem asL_lst : asL (.lst ws) st = .ok ws st := rfl
theorem asT_tup : asT (.tup ws) st = .ok ws st := rfl
theorem x_gN {i : Nat} : gN i a e st = .ok (e.set i (some a)) st := rfl
theorem x_gT2 {f g : EvG} : gT 2 (gsCons f (gsCons g gsNil)) (.tup [a, b]) e st = (f a e st).bind fun e1 st1 => (g b e1 st1).bind fun e2 st2 => .ok e2 st2 := rfl
theorem x_lc {m : Bool} {I : EvI} {h : EvG} : eLc m I h t fa e st = (I e st).bind fun ws st1 => (lcLoop h t fa ws [] e st1).bind (lcEnd m) := rfl
theorem x_lcEnd : lcEnd false ws st = .ok (.lst ws) st := rfl
theorem x_lcEndM : lcEnd true ws st = .ok (.obj st.length) (st ++ [.L ws]) := rfl
theorem x_lc0 {h : EvG} : lcLoop h t fa [] ws e st = .ok ws st := rfl
theorem x_lcS {h : EvG} : lcLoop h t fa (a :: zs) ws e st = (nox (h a e st)).bind fun e1 st1 => (nox (t e1 st1)).bind fun b st2 => if b = true then (nox (fa e1 st2)).bind fun y st3 => if small (y :: ws) = true then lcLoop h t fa zs (ws ++ [y]) e st3 else .bad else lcLoop h t fa zs ws e st2 := rfl
theorem nox_ok {α : Type} {a : α} : nox (.ok a st) = .ok a st := rfl
theorem x_yes : bYes e st = .ok true st := rfl
theorem k_ii {f : Int → Int → W} : kII f (.int i) (.int j) st = .ok (f i j) st := rfl
theorem k_ic {c : Int → Int → Bool} {f : Int → Int → W} : kIC c f (.int i) (.int j) st = if c i j = true then .ok (f i j) st else .bad := rfl
theorem k_eqS {n : Bool} : kEq n (.str x) (.str y) st = .ok (.bl (cond n (!decide (x = y)) (decide (x = y)))) st := rfl
theorem k_eqI {n : Bool} : kEq n (.int i) (.int j) st = .ok (.bl (cond n (!decide (i = j)) (decide (i = j)))) st := rfl
theorem k_lenL : kLen [.lst ws] st = .ok (.int ws.length) st := rfl
theorem k_lenT : kLen [.tup ws] st = .ok (.int ws.length) st := rfl
theorem k_lenS (h : x.length ≤ 1000000) : kLen [.str x] st = .ok (.int x.length) st := if_pos h
theorem k_lenO {k : Nat} (h : st[k]? = some (.L ws)) : kLen [.obj k] st = .ok (.int ws.length) st := by
  unfold kLen seqOf lstOf
  simp only [h]
theorem k_tupL : kTuple [.lst ws] st = .ok (.tup ws) st := rfl
theorem k_tupT : kTuple [.tup ws] st = .ok (.tup ws) st := rfl
theorem k_tupO {k : Nat} (h : st[k]? = some (.L ws)) : kTuple [.obj k] st = .ok (.tup ws) st := by
  unfold kTuple seqOf lstOf
  simp only [h]
theorem k_lstT : kList [.tup ws] st = .ok (.lst ws) st := rfl
theorem k_lstS : kList [.scr ws] st = .ok (.lst ws) st := rfl
theorem k_int : kInt [.int i] st = .ok (.int i) st := rfl
theorem k_cat (h : small (ws ++ zs) = true) : kCat (.lst ws) (.lst zs) st = .ok (.lst (ws ++ zs)) st := if_pos h
theorem k_catT (h : small (ws ++ zs) = true) : kCatT (.tup ws) (.tup zs) st = .ok (.tup (ws ++ zs)) st := if_pos h
theorem at_nat {α : Type} {l : List α} {k : Nat} : L2.atI l (k : Int) = l[k]? := by
  unfold L2.atI L2.ixN
  rw [if_pos (Int.natCast_nonneg k)]
  by_cases h : k < l.length
  · rw [if_pos (by omega)]; simp
  · rw [if_neg (by omega)]; simp [List.getElem?_eq_none (by omega : l.length ≤ k)]
theorem at_0 {α : Type} {a : α} {l : List α} : L2.atI (a :: l) 0 = some a := at_nat (k := 0)
theorem at_1 {α : Type} {a b : α} {l : List α} : L2.atI (a :: b :: l) 1 = some b := at_nat (k := 1)
theorem at_2 {α : Type} {a b c : α} {l : List α} : L2.atI (a :: b :: c :: l) 2 = some c := at_nat (k := 2)
theorem at_3 {α : Type} {a b c d : α} {l : List α} : L2.atI (a :: b :: c :: d :: l) 3 = some d := at_nat (k := 3)
theorem at_last {α : Type} {a : α} {l : List α} : L2.atI (l ++ [a]) (-1) = some a := by
  unfold L2.atI L2.ixN
  rw [if_neg (by decide), if_pos (by simp; omega)]
  have : ((-1 : Int) + ((l ++ [a]).length : Nat)).toNat = l.length := by simp; omega
  show ((some ((-1 : Int) + ((l ++ [a]).length : Nat)).toNat).bind fun j => (l ++ [a])[j]?) = some a
  rw [Option.bind_some, this]
  simp
def toR (st : Store) : Option W → Res W
  | some w => .ok w st
  | none => .bad
theorem toR_some : toR st (some a) = .ok a st := rfl
theorem k_ixT : kIxT (.tup ws) (.int i) st = toR st (L2.atI ws i) := by
  show (match L2.atI ws i with
    | some w => Res.ok w st
    | none => .bad) = _
  cases L2.atI ws i <;> rfl
theorem k_ixL : kIx (.lst ws) (.int i) st = toR st (L2.atI ws i) := by
  show (match L2.atI ws i with
    | some w => Res.ok w st
    | none => .bad) = _
  cases L2.atI ws i <;> rfl
theorem k_ixO {k : Nat} (h : st[k]? = some (.L ws)) : kIx (.obj k) (.int i) st = toR st (L2.atI ws i) := by
  unfold kIx toR lstOf
  simp only [h] <;> (cases L2.atI ws i <;> rfl)
theorem k_isNN {n : Bool} : kIsN n .non .non st = .ok (.bl (!n)) st := rfl
theorem k_isNT {n : Bool} : kIsN n (.tup ws) .non st = .ok (.bl n) st := rfl
theorem k_app {k : Nat} (h : st[k]? = some (.L ws)) (h2 : ws.length ≤ 1000) : kAppend (.obj k) [a] st = .ok .non (st.set k (.L (ws ++ [a]))) := by
  unfold kAppend
  simp only [h]
  rw [if_pos (by unfold small; simp; omega)]
theorem k_pop {k : Nat} (h : st[k]? = some (.L (ws ++ [a]))) : kPop (.obj k) [] st = .ok a (st.set k (.L ws)) := by
  unfold kPop
  simp only [h]
  have : (ws ++ [a])[(ws ++ [a]).length - 1]? = some a := by simp
  simp only [this]
  simp
theorem isL_O {k : Nat} (h : st[k]? = some (.L ws)) : isL (.obj k) st = true := by
  unfold isL lstOf
  simp only [h]
  rfl
theorem isS_S : isS (.str x) st = true := rfl
theorem dget {k : Nat} {ks : List (Str × W)} (h : st[k]? = some (.D ks)) : kDGet (.obj k) (.str x) st = toR st (ks.lookup x) := by
  unfold kDGet toR
  simp only [h] <;> (cases ks.lookup x <;> rfl)
theorem x_dput : sDPutV fa fb fc e st = (fc e st).bind fun w st1 => (fa e st1).bind fun a st2 => (fb e st2).bind fun k st3 => match a, k with
  | .obj j, .str k => (match st3[j]? with
    | some (.D ks) => if ks.length < 1000 then .ok (.nx e) (st3.set j (.D (putW ks k w))) else .bad
    | _ => .bad)
  | _, _ => .bad := rfl
theorem small_len (h : ws.length ≤ 1000000) : small ws = true := decide_eq_true h
end
end Vl
end
section
set_option Elab.async false
set_option linter.all false
set_option maxRecDepth 100000
set_option maxHeartbeats 0
namespace H85
open PySem PySem.Spec PyProof.Rows L2 Vl He
def top (i : Nat) : Stmt := PySem.Challenge.pw_passednames_k85_texts_there_and_back.main.body.getD i (.Pass ⟨0, 0, 0, 0⟩)
def ini (i : Nat) : Stmt := match top i with
  | .ClassDef _ _ _ b _ _ _ _ _ _ _ => b.getD 0 (.Pass ⟨0, 0, 0, 0⟩)
  | s => s
def mkD (n : Str) (i : Nat) : He.DefD := ⟨(n, none), n, n, defArgs (top i), defBody (top i), defScope (top i), [], []⟩
def names0 : List PySem.Str := ["__name__", "PassError", "BadPiece", "BadProgram", "BadText", "TooGreat", "MOST_WORDS", "LETTERS", "words_of", "word_at", "need_word", "need_end", "letter_at", "letters_at", "is_number", "number_at", "BRANCHES", "headed", "may_begin", "listed", "closed", "is_narrow", "piece_from", "program_from", "NAMES"]
def names1 : List PySem.Str := ["is_from", "is_name", "are_names", "MOST_DEEP", "MOST_PARTS", "MOST_BESIDE", "MOST_BRANCHES", "MOST_DEFINITIONS", "MOST_PARAMS", "MOST_ROW", "PREFIXES", "TESTS", "FOURS", "is_branch", "is_row_prefix", "has_shape", "inside", "fits", "checked", "is_head", "gone_through", "need_program", "free_in", "letters_of", "piece_words"]
def names2 : List PySem.Str := ["program_words", "program_text", "read_program", "_law_mixed", "_law_begin", "_law_draw", "_law_of", "_law_like", "_law_letter", "_law_branch", "_law_piece", "_law_main", "_law_closed", "_law_drawn", "_law_words_of", "_law_words", "_law_spread_out", "_law_caught", "_law_refused"]
def names : List PySem.Str := names0 ++ (names1 ++ (names2))
abbrev Rw : PySem.W.OpenRow := PySem.W.OpenLaw.row PySem.Challenge.rw_passednames_k85_texts_there_and_back
def fa0 : List He.Fa := [.glo "words_of", .glo "word_at", .glo "need_word", .glo "need_end", .glo "letter_at", .glo "letters_at", .glo "is_number", .glo "number_at", .glo "headed", .glo "may_begin", .glo "listed", .glo "closed", .glo "is_narrow", .glo "piece_from", .glo "program_from", .glo "is_from", .glo "is_name", .glo "are_names", .glo "is_branch", .glo "has_shape", .glo "inside", .glo "fits", .glo "checked", .glo "is_head", .glo "gone_through"]
def fa1 : List He.Fa := [.glo "need_program", .glo "free_in", .glo "letters_of", .glo "piece_words", .glo "program_words", .glo "program_text", .glo "read_program", .glo "_law_mixed", .glo "_law_begin", .glo "_law_draw", .glo "_law_of", .glo "_law_like", .glo "_law_letter", .glo "_law_branch", .glo "_law_piece", .glo "_law_main", .glo "_law_closed", .glo "_law_drawn", .glo "_law_words_of", .glo "_law_words", .glo "_law_spread_out", .glo "_law_caught", .glo "_law_refused", .glo "law", .glo "BRANCHES"]
def fa2 : List He.Fa := [.glo "PREFIXES", .glo "TESTS", .glo "FOURS", .glo "PassError", .glo "BadPiece", .glo "BadProgram", .glo "BadText", .glo "TooGreat", .free "len", .free "isinstance", .free "int", .free "str", .free "tuple", .free "bool", .free "enumerate", .free "dict", .free "list", .free "set", .free "sorted", .free "range", .free "repr", .int "MOST_WORDS" 400, .int "NAMES" 10, .int "MOST_DEEP" 12, .int "MOST_PARTS" 80]
def fa3 : List He.Fa := [.int "MOST_BESIDE" 4, .int "MOST_BRANCHES" 20, .int "MOST_DEFINITIONS" 4, .int "MOST_PARAMS" 4, .str "LETTERS" "abcdefghij", .keep "PassError", .keep "BadPiece", .keep "BadProgram", .keep "BadText", .keep "TooGreat", .exm "BadText" "BadText" true, .exm "BadProgram" "BadText" false, .exm "BadProgram" "BadProgram" true, .exm "BadPiece" "BadText" false, .exm "BadPiece" "BadProgram" false, .exm "BadPiece" "BadPiece" true, .exm "TooGreat" "BadText" false, .exm "TooGreat" "BadProgram" false, .exm "TooGreat" "BadPiece" false, .exm "TooGreat" "TooGreat" true]
def fa : List He.Fa := fa0 ++ (fa1 ++ (fa2 ++ (fa3)))
def fn0 : List He.DefD := [⟨("BadPiece", some "__init__"), "__init__", "BadPiece.__init__", defArgs (ini 2), defBody (ini 2), defScope (ini 2), [], []⟩, ⟨("BadProgram", some "__init__"), "__init__", "BadProgram.__init__", defArgs (ini 3), defBody (ini 3), defScope (ini 3), [], []⟩, ⟨("BadText", some "__init__"), "__init__", "BadText.__init__", defArgs (ini 4), defBody (ini 4), defScope (ini 4), [], []⟩, ⟨("TooGreat", some "__init__"), "__init__", "TooGreat.__init__", defArgs (ini 5), defBody (ini 5), defScope (ini 5), [], []⟩, mkD "words_of" 9, mkD "word_at" 10, mkD "need_word" 11, mkD "need_end" 12, mkD "letter_at" 13, mkD "letters_at" 14, mkD "is_number" 15, mkD "number_at" 16, mkD "headed" 19, mkD "may_begin" 20, mkD "listed" 21, mkD "closed" 22, mkD "is_narrow" 23, mkD "piece_from" 24, mkD "program_from" 25, mkD "is_from" 28, mkD "is_name" 29, mkD "are_names" 30, mkD "is_branch" 42, mkD "has_shape" 44, mkD "inside" 45]
def fn1 : List He.DefD := [mkD "fits" 46, mkD "checked" 47, mkD "is_head" 48, ⟨("gone_through", none), "gone_through", "gone_through", defArgs (top 49), defBody (top 49), defScope (top 49), [.bl false], []⟩, mkD "need_program" 50, mkD "free_in" 51, mkD "letters_of" 53, mkD "piece_words" 54, mkD "program_words" 55, mkD "program_text" 56, mkD "read_program" 57, mkD "_law_mixed" 59, mkD "_law_begin" 60, mkD "_law_draw" 61, mkD "_law_of" 62, mkD "_law_like" 63, mkD "_law_letter" 64, mkD "_law_branch" 65, mkD "_law_piece" 66, mkD "_law_main" 67, mkD "_law_closed" 68, mkD "_law_drawn" 69, mkD "_law_words_of" 70, mkD "_law_words" 71, mkD "_law_spread_out" 72]
def fn2 : List He.DefD := [mkD "_law_caught" 73, mkD "_law_refused" 74, mkD "law" 75]
def fn : List He.DefD := fn0 ++ (fn1 ++ (fn2))
def ex (K : PySem.W.Frag) : Bool := errB K "BadPiece" ["path"] && (errB K "BadProgram" ["place"] && (errB K "BadText" ["line", "word"] && (errB K "TooGreat" ["most"] && (biniB K "PassError" && (tupB K "BRANCHES" [.str "send", .str "take", .str "wait", .str "alike", .str "unlike"] && (tupB K "PREFIXES" [.str "send", .str "take", .str "wait", .str "sends", .str "takes"] && (tupB K "TESTS" [.str "alike", .str "unlike"] && (tupB K "FOURS" [.str "send", .str "take", .str "alike", .str "unlike", .str "sends", .str "takes"]))))))))
abbrev hk : PySem.W.Hook := hookY 5 fa fn [("_law_refused", none)] ex
def ob (s : PySem.W.SharedT) : AlY := obsY 5 fa fn [("_law_refused", none)] ex (HandSHeadRun.getT s)
theorem ob_eq (s : PySem.W.SharedT) : ob s = hk.obs s.abs := obsY_eq (HandSHeadRun.getT_eq s)
theorem run (w : World) : HandSHeadRun.RunEq Rw (PySem.W.view Rw.prog [75]) hk ob 6000 names w := by
  intro os
  kernel_rfl

end H85
end
section
set_option Elab.async false
set_option linter.all false
set_option maxRecDepth 100000
set_option maxHeartbeats 0
namespace K85
open PySem PySem.Spec PyProof.Rows L2 Vl He
def tQ : Str := "_law_refused.<locals>.<lambda>"
def tKinds : List (Str × List Str) := [("BadText", ["line", "word"]), ("BadProgram", ["place"]), ("BadPiece", ["path"]), ("TooGreat", ["most"])]
def b_words_of  : EvS := (sRet (eLc false (iL (eM isS kSplit (eVar 0) (aCons (eC (.str " ")) aNil))) (gN 1) (eT (e2 (kEq true) (eVar 1) (eC (.str "")))) (eVar 1)))
def f_words_of : List W → Store → Res W := defF 2 (b_words_of)
theorem u_words_of {w0 : W} {st : Store} : f_words_of [w0] st = fin (b_words_of [some w0, none] st) := rfl
def b_word_at  : EvS := (sCons (sIf (eT (e2 kGe (eVar 1) (eCB kLen (aCons (eVar 0) aNil)))) (sRaise "BadText" ["line", "word"] (aCons (eVar 2) (aCons (eCB kLen (aCons (eVar 0) aNil)) aNil))) sNil) (sCons (sIf (eT (e2 kGe (eVar 1) (eC (.int 400)))) (sRaise "TooGreat" ["most"] (aCons (eC (.int 400)) aNil)) sNil) (sRet (e2 kIx (eVar 0) (eVar 1)))))
def f_word_at : List W → Store → Res W := defF 3 (b_word_at)
theorem u_word_at {w0 w1 w2 : W} {st : Store} : f_word_at [w0, w1, w2] st = fin (b_word_at [some w0, some w1, some w2] st) := rfl
def b_need_word  : EvS := (sCons (sIf (eT (e2 (kEq true) (eCall 3 f_word_at (aCons (eVar 0) (aCons (eVar 1) (aCons (eVar 2) aNil)))) (eVar 3))) (sRaise "BadText" ["line", "word"] (aCons (eVar 2) (aCons (eVar 1) aNil))) sNil) (sRet (e2 kAdd (eVar 1) (eC (.int 1)))))
def f_need_word : List W → Store → Res W := defF 4 (b_need_word)
theorem u_need_word {w0 w1 w2 w3 : W} {st : Store} : f_need_word [w0, w1, w2, w3] st = fin (b_need_word [some w0, some w1, some w2, some w3] st) := rfl
def b_need_end  : EvS := (sIf (eT (e2 kLt (eVar 1) (eCB kLen (aCons (eVar 0) aNil)))) (sCons (sExpr (eCall 3 f_word_at (aCons (eVar 0) (aCons (eVar 1) (aCons (eVar 2) aNil))))) (sRaise "BadText" ["line", "word"] (aCons (eVar 2) (aCons (eVar 1) aNil)))) sNil)
def f_need_end : List W → Store → Res W := defF 3 (b_need_end)
theorem u_need_end {w0 w1 w2 : W} {st : Store} : f_need_end [w0, w1, w2] st = fin (b_need_end [some w0, some w1, some w2] st) := rfl
def b_letter_at  : EvS := (sCons (sSet 3 (eCall 3 f_word_at (aCons (eVar 0) (aCons (eVar 1) (aCons (eVar 2) aNil))))) (sCons (sIf (bOr (eT (e2 (kEq true) (eCB kLen (aCons (eVar 3) aNil)) (eC (.int 1)))) (eT (e2 (kInS true) (eVar 3) (eC (.str "abcdefghij"))))) (sRaise "BadText" ["line", "word"] (aCons (eVar 2) (aCons (eVar 1) aNil))) sNil) (sRet (eTup (aCons (eM isS kIndexS (eC (.str "abcdefghij")) (aCons (eVar 3) aNil)) (aCons (e2 kAdd (eVar 1) (eC (.int 1))) aNil))))))
def f_letter_at : List W → Store → Res W := defF 4 (b_letter_at)
theorem u_letter_at {w0 w1 w2 : W} {st : Store} : f_letter_at [w0, w1, w2] st = fin (b_letter_at [some w0, some w1, some w2, none] st) := rfl
def wt_letters_at : EvT := (eT (e2 (kEq true) (eCall 3 f_word_at (aCons (eVar 0) (aCons (eVar 3) (aCons (eVar 2) aNil)))) (eC (.str ")"))))
def wb_letters_at : EvS := (sCons (sAsg (eCall 3 f_letter_at (aCons (eVar 0) (aCons (eVar 3) (aCons (eVar 2) aNil)))) (gT 2 (gsCons (gN 5) (gsCons (gN 3) gsNil)))) (sExpr (eM isL kAppend (eVar 4) (aCons (eVar 5) aNil))))
def b_letters_at  : EvS := (sCons (sSet 3 (eCall 4 f_need_word (aCons (eVar 0) (aCons (eVar 1) (aCons (eVar 2) (aCons (eC (.str "(")) aNil)))))) (sCons (sSet 4 (eLstM aNil)) (sCons (sWhile 1000 wt_letters_at wb_letters_at) (sRet (eTup (aCons (eCB kTuple (aCons (eVar 4) aNil)) (aCons (e2 kAdd (eVar 3) (eC (.int 1))) aNil)))))))
def f_letters_at : List W → Store → Res W := defF 6 (b_letters_at)
theorem u_letters_at {w0 w1 w2 : W} {st : Store} : f_letters_at [w0, w1, w2] st = fin (b_letters_at [some w0, some w1, some w2, none, none, none] st) := rfl
def b_is_number  : EvS := (sCons (sIf (bOr (bNot (eT (eChain kLe kLe (eC (.int 1)) (eCB kLen (aCons (eVar 0) aNil)) (eVar 1)))) (eT (e2 kGt (eCB kLen (aCons (eLc false (iS (eVar 0)) (gN 2) (eT (e2 (kInS true) (eVar 2) (eC (.str "0123456789")))) (eVar 2)) aNil)) (eC (.int 0))))) (sRet (eC (.bl false))) sNil) (sRet (vOr (e2 (kEq false) (eVar 0) (eC (.str "0"))) (vNot (eM isS kStarts (eVar 0) (aCons (eC (.str "0")) aNil))))))
def f_is_number : List W → Store → Res W := defF 3 (b_is_number)
theorem u_is_number {w0 w1 : W} {st : Store} : f_is_number [w0, w1] st = fin (b_is_number [some w0, some w1, none] st) := rfl
def b_number_at  : EvS := (sCons (sSet 3 (eCall 3 f_word_at (aCons (eVar 0) (aCons (eVar 1) (aCons (eVar 2) aNil))))) (sCons (sIf (bNot (eT (eCall 2 f_is_number (aCons (eVar 3) (aCons (eC (.int 2)) aNil))))) (sRaise "BadText" ["line", "word"] (aCons (eVar 2) (aCons (eVar 1) aNil))) sNil) (sRet (eTup (aCons (eCB kIntS (aCons (eVar 3) aNil)) (aCons (e2 kAdd (eVar 1) (eC (.int 1))) aNil))))))
def f_number_at : List W → Store → Res W := defF 4 (b_number_at)
theorem u_number_at {w0 w1 w2 : W} {st : Store} : f_number_at [w0, w1, w2] st = fin (b_number_at [some w0, some w1, some w2, none] st) := rfl
def b_headed  : EvS := (sCons (sSet 1 (e2 kAdd (eVar 1) (eC (.int 1)))) (sCons (sIf (eT (e2 (kEq false) (eVar 3) (eC (.str "wait")))) (sRet (eTup (aCons (eTup (aCons (eVar 3) aNil)) (aCons (eVar 1) aNil)))) sNil) (sCons (sIf (eT (e2 (kEq false) (eVar 3) (eC (.str "call")))) (sCons (sAsg (eCall 3 f_number_at (aCons (eVar 0) (aCons (eVar 1) (aCons (eVar 2) aNil)))) (gT 2 (gsCons (gN 4) (gsCons (gN 1) gsNil)))) (sCons (sAsg (eCall 3 f_letters_at (aCons (eVar 0) (aCons (eVar 1) (aCons (eVar 2) aNil)))) (gT 2 (gsCons (gN 5) (gsCons (gN 1) gsNil)))) (sRet (eTup (aCons (eTup (aCons (eVar 3) (aCons (eVar 4) (aCons (eVar 5) aNil)))) (aCons (eVar 1) aNil)))))) sNil) (sCons (sAsg (eCall 3 f_letter_at (aCons (eVar 0) (aCons (eVar 1) (aCons (eVar 2) aNil)))) (gT 2 (gsCons (gN 6) (gsCons (gN 1) gsNil)))) (sCons (sIf (eT (e2 (kEq false) (eVar 3) (eC (.str "new")))) (sRet (eTup (aCons (eTup (aCons (eVar 3) (aCons (eVar 6) aNil))) (aCons (eVar 1) aNil)))) sNil) (sCons (sAsg (eCall 3 f_letter_at (aCons (eVar 0) (aCons (eVar 1) (aCons (eVar 2) aNil)))) (gT 2 (gsCons (gN 7) (gsCons (gN 1) gsNil)))) (sRet (eTup (aCons (eTup (aCons (eVar 3) (aCons (eVar 6) (aCons (eVar 7) aNil)))) (aCons (eVar 1) aNil))))))))))
def f_headed : List W → Store → Res W := defF 8 (b_headed)
theorem u_headed {w0 w1 w2 w3 : W} {st : Store} : f_headed [w0, w1, w2, w3] st = fin (b_headed [some w0, some w1, some w2, some w3, none, none, none, none] st) := rfl
def b_may_begin  : EvS := (sRet (vOr (e2 (kInT false) (eVar 0) (eC (.tup (List.map W.str ["send", "take", "wait", "alike", "unlike"])))) (vAnd (vNot (eVar 1)) (e2 (kInT false) (eVar 0) (eTup (aCons (eC (.str "(")) (aCons (eC (.str "[")) (aCons (eC (.str "new")) (aCons (eC (.str "call")) aNil)))))))))
def f_may_begin : List W → Store → Res W := defF 2 (b_may_begin)
theorem u_may_begin {w0 w1 : W} {st : Store} : f_may_begin [w0, w1] st = fin (b_may_begin [some w0, some w1] st) := rfl
def b_listed  : EvS := (sCons (sSet 1 (e2 kAdd (eVar 1) (eC (.int 1)))) (sCons (sSet 5 (eIf (eT (e2 (kEq false) (eVar 4) (eC (.str "(")))) (eC (.str ")")) (eC (.str "]")))) (sCons (sIf (eT (e2 (kEq false) (eCall 3 f_word_at (aCons (eVar 0) (aCons (eVar 1) (aCons (eVar 2) aNil)))) (eVar 5))) (sRet (eTup (aCons (eTup (aCons (eIf (eT (e2 (kEq false) (eVar 4) (eC (.str "(")))) (eC (.str "one")) (eC (.str "beside"))) (aCons (eTup aNil) aNil))) (aCons (e2 kAdd (eVar 1) (eC (.int 1))) aNil)))) sNil) (sCons (sExpr (eM isL kAppend (eVar 3) (aCons (eLst (aCons (eVar 4) (aCons (eLstM aNil) aNil))) aNil))) (sRet (eTup (aCons (eC .non) (aCons (eVar 1) aNil))))))))
def f_listed : List W → Store → Res W := defF 6 (b_listed)
theorem u_listed {w0 w1 w2 w3 w4 : W} {st : Store} : f_listed [w0, w1, w2, w3, w4] st = fin (b_listed [some w0, some w1, some w2, some w3, some w4, none] st) := rfl
def wt_closed : EvT := (eT (e2 kGt (eCB kLen (aCons (eVar 3) aNil)) (eC (.int 0))))
def wb_closed : EvS := (sCons (sAsg (e2 kIx (eVar 3) (eNeg (eC (.int 1)))) (gL 2 (gsCons (gN 5) (gsCons (gN 6) gsNil)))) (sCons (sIf (eT (e2 (kInT true) (eVar 5) (eTup (aCons (eC (.str "(")) (aCons (eC (.str "[")) aNil))))) (sCons (sExpr (eM0 isL kPop (eVar 3))) (sCons (sSet 4 (e2 kCatT (eVar 5) (eTup (aCons (eVar 4) aNil)))) sCont)) sNil) (sCons (sExpr (eM isL kAppend (eVar 6) (aCons (eVar 4) aNil))) (sCons (sSet 7 (eCall 3 f_word_at (aCons (eVar 0) (aCons (eVar 1) (aCons (eVar 2) aNil))))) (sCons (sIf (eT (e2 (kEq false) (eVar 7) (eIf (eT (e2 (kEq false) (eVar 5) (eC (.str "(")))) (eC (.str "+")) (eC (.str "/"))))) (sRet (eTup (aCons (eC .non) (aCons (e2 kAdd (eVar 1) (eC (.int 1))) aNil)))) sNil) (sCons (sIf (eT (e2 (kEq true) (eVar 7) (eIf (eT (e2 (kEq false) (eVar 5) (eC (.str "(")))) (eC (.str ")")) (eC (.str "]"))))) (sRaise "BadText" ["line", "word"] (aCons (eVar 2) (aCons (eVar 1) aNil))) sNil) (sCons (sExpr (eM0 isL kPop (eVar 3))) (sPar 4 1 (aCons (eTup (aCons (eIf (eT (e2 (kEq false) (eVar 5) (eC (.str "(")))) (eC (.str "one")) (eC (.str "beside"))) (aCons (eCB kTuple (aCons (eVar 6) aNil)) aNil))) (aCons (e2 kAdd (eVar 1) (eC (.int 1))) aNil))))))))))
def b_closed  : EvS := (sCons (sWhile 1000 wt_closed wb_closed) (sRet (eTup (aCons (eVar 4) (aCons (eVar 1) aNil)))))
def f_closed : List W → Store → Res W := defF 8 (b_closed)
theorem u_closed {w0 w1 w2 w3 w4 : W} {st : Store} : f_closed [w0, w1, w2, w3, w4] st = fin (b_closed [some w0, some w1, some w2, some w3, some w4, none, none, none] st) := rfl
def b_is_narrow  : EvS := (sCons (sIf (eT (e2 (kEq false) (eCB kLen (aCons (eVar 0) aNil)) (eC (.int 0)))) (sRet (eC (.bl false))) sNil) (sCons (sSet 1 (e2 kIx (e2 kIx (eVar 0) (eNeg (eC (.int 1)))) (eC (.int 0)))) (sRet (vOr (e2 (kEqD false) (eVar 1) (eC (.str "("))) (vAnd (e2 (kInT true) (eVar 1) (eTup (aCons (eC (.str "(")) (aCons (eC (.str "[")) aNil)))) (e2 (kInT false) (e2 kIxT (eVar 1) (eC (.int 0))) (eTup (aCons (eC (.str "alike")) (aCons (eC (.str "unlike")) aNil)))))))))
def f_is_narrow : List W → Store → Res W := defF 2 (b_is_narrow)
theorem u_is_narrow {w0 : W} {st : Store} : f_is_narrow [w0] st = fin (b_is_narrow [some w0, none] st) := rfl
def wt_piece_from : EvT := (eT (e2 (kIsN false) (eVar 5) (eC .non)))
def wb_piece_from : EvS := (sCons (sSet 6 (eCall 3 f_word_at (aCons (eVar 0) (aCons (eVar 4) (aCons (eVar 2) aNil))))) (sCons (sIf (bNot (eT (eCall 2 f_may_begin (aCons (eVar 6) (aCons (eCall 1 f_is_narrow (aCons (eVar 3) aNil)) aNil))))) (sRaise "BadText" ["line", "word"] (aCons (eVar 2) (aCons (eVar 4) aNil))) sNil) (sCons (sIf (eT (e2 (kInT false) (eVar 6) (eTup (aCons (eC (.str "(")) (aCons (eC (.str "[")) aNil))))) (sAsg (eCall 5 f_listed (aCons (eVar 0) (aCons (eVar 4) (aCons (eVar 2) (aCons (eVar 3) (aCons (eVar 6) aNil)))))) (gT 2 (gsCons (gN 7) (gsCons (gN 4) gsNil)))) (sCons (sAsg (eCall 4 f_headed (aCons (eVar 0) (aCons (eVar 4) (aCons (eVar 2) (aCons (eVar 6) aNil))))) (gT 2 (gsCons (gN 8) (gsCons (gN 4) gsNil)))) (sCons (sSet 7 (eIf (eT (e2 (kEq false) (eVar 6) (eC (.str "call")))) (eVar 8) (eC .non))) (sIf (eT (e2 (kIsN false) (eVar 7) (eC .non))) (sExpr (eM isL kAppend (eVar 3) (aCons (eLst (aCons (eVar 8) (aCons (eC .non) aNil))) aNil))) sNil)))) (sIf (eT (e2 (kIsN true) (eVar 7) (eC .non))) (sAsg (eCall 5 f_closed (aCons (eVar 0) (aCons (eVar 4) (aCons (eVar 2) (aCons (eVar 3) (aCons (eVar 7) aNil)))))) (gT 2 (gsCons (gN 5) (gsCons (gN 4) gsNil)))) sNil))))
def b_piece_from  : EvS := (sCons (sPar3 3 4 5 (aCons (eLstM aNil) (aCons (eVar 1) (aCons (eC .non) aNil)))) (sCons (sWhile 1000 wt_piece_from wb_piece_from) (sRet (eTup (aCons (eVar 5) (aCons (eVar 4) aNil))))))
def f_piece_from : List W → Store → Res W := defF 9 (b_piece_from)
theorem u_piece_from {w0 w1 w2 : W} {st : Store} : f_piece_from [w0, w1, w2] st = fin (b_piece_from [some w0, some w1, some w2, none, none, none, none, none, none] st) := rfl
def wt_program_from : EvT := (eT (e2 (kEq false) (eCall 3 f_word_at (aCons (eVar 0) (aCons (eVar 3) (aCons (eVar 2) aNil)))) (eC (.str "def"))))
def wb_program_from : EvS := (sCons (sAsg (eCall 3 f_letters_at (aCons (eVar 0) (aCons (e2 kAdd (eVar 3) (eC (.int 1))) (aCons (eVar 2) aNil)))) (gT 2 (gsCons (gN 5) (gsCons (gN 3) gsNil)))) (sCons (sAsg (eCall 3 f_piece_from (aCons (eVar 0) (aCons (eVar 3) (aCons (eVar 2) aNil)))) (gT 2 (gsCons (gN 6) (gsCons (gN 3) gsNil)))) (sCons (sSet 3 (eCall 4 f_need_word (aCons (eVar 0) (aCons (eVar 3) (aCons (eVar 2) (aCons (eC (.str ";")) aNil)))))) (sExpr (eM isL kAppend (eVar 4) (aCons (eTup (aCons (eVar 5) (aCons (eVar 6) aNil))) aNil))))))
def b_program_from  : EvS := (sCons (sPar 3 4 (aCons (eVar 1) (aCons (eLstM aNil) aNil))) (sCons (sWhile 1000 wt_program_from wb_program_from) (sCons (sAsg (eCall 3 f_piece_from (aCons (eVar 0) (aCons (eVar 3) (aCons (eVar 2) aNil)))) (gT 2 (gsCons (gN 7) (gsCons (gN 3) gsNil)))) (sCons (sExpr (eCall 3 f_need_end (aCons (eVar 0) (aCons (eVar 3) (aCons (eVar 2) aNil))))) (sRet (eTup (aCons (eCB kTuple (aCons (eVar 4) aNil)) (aCons (eVar 7) aNil))))))))
def f_program_from : List W → Store → Res W := defF 8 (b_program_from)
theorem u_program_from {w0 w1 w2 : W} {st : Store} : f_program_from [w0, w1, w2] st = fin (b_program_from [some w0, some w1, some w2, none, none, none, none, none] st) := rfl
def b_is_from  : EvS := (sRet (vAnd (eIsi "int" (eVar 0)) (vAnd (vNot (eIsi "bool" (eVar 0))) (eChain kLe kLe (eVar 1) (eVar 0) (eVar 2)))))
def f_is_from : List W → Store → Res W := defF 3 (b_is_from)
theorem u_is_from {w0 w1 w2 : W} {st : Store} : f_is_from [w0, w1, w2] st = fin (b_is_from [some w0, some w1, some w2] st) := rfl
def b_is_name  : EvS := (sRet (eCall 3 f_is_from (aCons (eVar 0) (aCons (eC (.int 0)) (aCons (e2 kSub (eC (.int 10)) (eC (.int 1))) aNil)))))
def f_is_name : List W → Store → Res W := defF 1 (b_is_name)
theorem u_is_name {w0 : W} {st : Store} : f_is_name [w0] st = fin (b_is_name [some w0] st) := rfl
def b_are_names  : EvS := (sCons (sIf (bOr (bNot (eT (eIsi "tuple" (eVar 0)))) (eT (e2 kGt (eCB kLen (aCons (eVar 0) aNil)) (eVar 1)))) (sRet (eC (.bl false))) sNil) (sCons (sFor (iT (eVar 0)) (gN 2) (sIf (bNot (eT (eCall 1 f_is_name (aCons (eVar 2) aNil)))) (sRet (eC (.bl false))) sNil)) (sRet (eC (.bl true)))))
def f_are_names : List W → Store → Res W := defF 3 (b_are_names)
theorem u_are_names {w0 w1 : W} {st : Store} : f_are_names [w0, w1] st = fin (b_are_names [some w0, some w1, none] st) := rfl
def b_is_branch  : EvS := (sRet (vOr (e2 (kInT false) (e2 kIxT (eVar 0) (eC (.int 0))) (eC (.tup (List.map W.str ["send", "take", "wait", "sends", "takes"])))) (e2 (kInT false) (e2 kIxT (eVar 0) (eC (.int 0))) (eC (.tup (List.map W.str ["alike", "unlike"]))))))
def f_is_branch : List W → Store → Res W := defF 1 (b_is_branch)
theorem u_is_branch {w0 : W} {st : Store} : f_is_branch [w0] st = fin (b_is_branch [some w0] st) := rfl
def b_has_shape  : EvS := (sCons (sIf (bOr (bNot (eT (eIsi "tuple" (eVar 0)))) (bOr (eT (e2 (kEq false) (eCB kLen (aCons (eVar 0) aNil)) (eC (.int 0)))) (bNot (eT (eIsi "str" (e2 kIxT (eVar 0) (eC (.int 0)))))))) (sRet (eC (.bl false))) sNil) (sCons (sSet 3 (e2 kIxT (eVar 0) (eC (.int 0)))) (sCons (sIf (eT (e2 (kInT false) (eVar 3) (eTup (aCons (eC (.str "sends")) (aCons (eC (.str "takes")) aNil))))) (sRet (vAnd (eVar 2) eBad)) sNil) (sCons (sIf (eT (e2 (kInT false) (eVar 3) (eTup (aCons (eC (.str "send")) (aCons (eC (.str "take")) (aCons (eC (.str "alike")) (aCons (eC (.str "unlike")) aNil))))))) (sRet (vAnd (e2 (kEq false) (eCB kLen (aCons (eVar 0) aNil)) (eC (.int 4))) (vAnd (eCall 1 f_is_name (aCons (e2 kIxT (eVar 0) (eC (.int 1))) aNil)) (eCall 1 f_is_name (aCons (e2 kIxT (eVar 0) (eC (.int 2))) aNil))))) sNil) (sCons (sIf (eT (e2 (kEq false) (eVar 3) (eC (.str "wait")))) (sRet (e2 (kEq false) (eCB kLen (aCons (eVar 0) aNil)) (eC (.int 2)))) sNil) (sCons (sIf (eT (e2 (kInT false) (eVar 3) (eTup (aCons (eC (.str "one")) (aCons (eC (.str "beside")) aNil))))) (sCons (sSet 4 (eIf (eT (e2 (kEq false) (eVar 3) (eC (.str "one")))) (eC (.int 20)) (eC (.int 4)))) (sRet (vAnd (e2 (kEq false) (eCB kLen (aCons (eVar 0) aNil)) (eC (.int 2))) (vAnd (eIsi "tuple" (e2 kIxT (eVar 0) (eC (.int 1)))) (e2 kLe (eCB kLen (aCons (e2 kIxT (eVar 0) (eC (.int 1))) aNil)) (eVar 4)))))) sNil) (sCons (sIf (eT (e2 (kEq false) (eVar 3) (eC (.str "new")))) (sRet (vAnd (e2 (kEq false) (eCB kLen (aCons (eVar 0) aNil)) (eC (.int 3))) (eCall 1 f_is_name (aCons (e2 kIxT (eVar 0) (eC (.int 1))) aNil)))) sNil) (sCons (sIf (bOr (eT (e2 (kEq true) (eVar 3) (eC (.str "call")))) (bOr (eT (e2 (kEq true) (eCB kLen (aCons (eVar 0) aNil)) (eC (.int 3)))) (bNot (eT (eCall 3 f_is_from (aCons (e2 kIxT (eVar 0) (eC (.int 1))) (aCons (eC (.int 0)) (aCons (e2 kSub (eCB kLen (aCons (eVar 1) aNil)) (eC (.int 1))) aNil)))))))) (sRet (eC (.bl false))) sNil) (sRet (vAnd (eCall 2 f_are_names (aCons (e2 kIxT (eVar 0) (eC (.int 2))) (aCons (eC (.int 4)) aNil))) (e2 (kEq false) (eCB kLen (aCons (e2 kIxT (eVar 0) (eC (.int 2))) aNil)) (e2 kIxT (eVar 1) (e2 kIxT (eVar 0) (eC (.int 1)))))))))))))))
def f_has_shape : List W → Store → Res W := defF 5 (b_has_shape)
theorem u_has_shape {w0 w1 w2 : W} {st : Store} : f_has_shape [w0, w1, w2] st = fin (b_has_shape [some w0, some w1, some w2, none, none] st) := rfl
def b_inside  : EvS := (sCons (sSet 1 (e2 kIxT (eVar 0) (eC (.int 0)))) (sCons (sIf (eT (e2 (kInT false) (eVar 1) (eTup (aCons (eC (.str "one")) (aCons (eC (.str "beside")) aNil))))) (sRet (eLc false (iEnT (aCons (e2 kIxT (eVar 0) (eC (.int 1))) aNil)) (gT 2 (gsCons (gN 2) (gsCons (gN 3) gsNil))) bYes (eTup (aCons (eTup (aCons (eC (.int 1)) (aCons (eVar 2) aNil))) (aCons (eVar 3) aNil))))) sNil) (sCons (sIf (eT (e2 (kEq false) (eVar 1) (eC (.str "wait")))) (sRet (eLst (aCons (eTup (aCons (eTup (aCons (eC (.int 1)) aNil)) (aCons (e2 kIxT (eVar 0) (eC (.int 1))) aNil))) aNil))) sNil) (sCons (sIf (eT (e2 (kEq false) (eVar 1) (eC (.str "new")))) (sRet (eLst (aCons (eTup (aCons (eTup (aCons (eC (.int 2)) aNil)) (aCons (e2 kIxT (eVar 0) (eC (.int 2))) aNil))) aNil))) sNil) (sRet (eIf (eT (e2 (kInT false) (eVar 1) (eC (.tup (List.map W.str ["send", "take", "alike", "unlike", "sends", "takes"]))))) (eLst (aCons (eTup (aCons (eTup (aCons (eC (.int 3)) aNil)) (aCons (e2 kIxT (eVar 0) (eC (.int 3))) aNil))) aNil)) (eLst aNil)))))))
def f_inside : List W → Store → Res W := defF 4 (b_inside)
theorem u_inside {w0 : W} {st : Store} : f_inside [w0] st = fin (b_inside [some w0, none, none, none] st) := rfl
def b_fits  : EvS := (sCons (sIf (eT (e2 (kEqD false) (eVar 0) (eTup (aCons (eC (.str "hole")) aNil)))) (sRet (vAnd (e2 kDGet (eVar 1) (eC (.str "hole"))) (vNot (e2 kDGet (eVar 1) (eC (.str "branch")))))) sNil) (sCons (sIf (bNot (eT (eCall 3 f_has_shape (aCons (eVar 0) (aCons (e2 kDGet (eVar 1) (eC (.str "widths"))) (aCons (e2 kDGet (eVar 1) (eC (.str "rows"))) aNil)))))) (sRet (eC (.bl false))) sNil) (sCons (sIf (bAnd (eT (e2 kDGet (eVar 1) (eC (.str "branch")))) (bNot (eT (eCall 1 f_is_branch (aCons (eVar 0) aNil))))) (sRet (eC (.bl false))) sNil) (sCons (sIf (bAnd (eT (e2 kDGet (eVar 1) (eC (.str "body")))) (bOr (eT (e2 (kEq false) (e2 kIxT (eVar 0) (eC (.int 0))) (eC (.str "beside")))) (bAnd (eT (e2 (kEq false) (e2 kIxT (eVar 0) (eC (.int 0))) (eC (.str "call")))) (bNot (eT (e2 kDGet (eVar 1) (eC (.str "behind")))))))) (sRet (eC (.bl false))) sNil) (sRet (eC (.bl true)))))))
def f_fits : List W → Store → Res W := defF 2 (b_fits)
theorem u_fits {w0 w1 : W} {st : Store} : f_fits [w0, w1] st = fin (b_fits [some w0, some w1] st) := rfl
def b_checked (r_checked : List W → Store → Res W) : EvS := (sCons (sIf (eT (e2 kGt (eVar 2) (eC (.int 12)))) (sRaise "TooGreat" ["most"] (aCons (eC (.int 12)) aNil)) sNil) (sCons (sIf (eT (e2 (kEq false) (eVar 3) (eC (.int 80)))) (sRaise "TooGreat" ["most"] (aCons (eC (.int 80)) aNil)) sNil) (sCons (sIf (bNot (eT (eCall 2 f_fits (aCons (eVar 0) (aCons (eVar 4) aNil))))) (sRaise "BadPiece" ["path"] (aCons (eVar 1) aNil)) sNil) (sCons (sSet 5 (eCB kDict (aCons (eVar 4) aNil))) (sCons (sDPutV (eVar 5) (eC (.str "branch")) (vOr (e2 (kInT false) (e2 kIxT (eVar 0) (eC (.int 0))) (eC (.tup (List.map W.str ["alike", "unlike"])))) (e2 (kEq false) (e2 kIxT (eVar 0) (eC (.int 0))) (eC (.str "one"))))) (sCons (sDPutV (eVar 5) (eC (.str "behind")) (vOr (e2 kDGet (eVar 4) (eC (.str "behind"))) (e2 (kInT false) (e2 kIxT (eVar 0) (eC (.int 0))) (eC (.tup (List.map W.str ["send", "take", "wait", "sends", "takes"])))))) (sCons (sSet 6 (e2 kAdd (eVar 3) (eC (.int 1)))) (sCons (sFor (iL (eCall 1 f_inside (aCons (eVar 0) aNil))) (gT 2 (gsCons (gN 7) (gsCons (gN 8) gsNil))) (sSet 6 (eCall 5 r_checked (aCons (eVar 8) (aCons (e2 kCatT (eVar 1) (eVar 7)) (aCons (e2 kAdd (eVar 2) (eC (.int 1))) (aCons (eVar 6) (aCons (eVar 5) aNil)))))))) (sRet (eVar 6))))))))))
def f_checked : Nat → List W → Store → Res W
  | 0 => fBad
  | n + 1 => defF 9 (b_checked (f_checked n))
theorem u_checked {n : Nat} {w0 w1 w2 w3 w4 : W} {st : Store} : f_checked (n + 1) [w0, w1, w2, w3, w4] st = fin (b_checked (f_checked n) [some w0, some w1, some w2, some w3, some w4, none, none, none, none] st) := rfl
def b_is_head  : EvS := (sCons (sIf (bOr (bNot (eT (eIsi "tuple" (eVar 0)))) (bOr (eT (e2 (kEq true) (eCB kLen (aCons (eVar 0) aNil)) (eC (.int 2)))) (bNot (eT (eCall 2 f_are_names (aCons (e2 kIxT (eVar 0) (eC (.int 0))) (aCons (eC (.int 4)) aNil))))))) (sRet (eC (.bl false))) sNil) (sRet (e2 (kEq false) (eLenSet (eCB kList (aCons (e2 kIxT (eVar 0) (eC (.int 0))) aNil))) (eCB kLen (aCons (e2 kIxT (eVar 0) (eC (.int 0))) aNil)))))
def f_is_head : List W → Store → Res W := defF 1 (b_is_head)
theorem u_is_head {w0 : W} {st : Store} : f_is_head [w0] st = fin (b_is_head [some w0] st) := rfl
def b_free_in (r_free_in : List W → Store → Res W) : EvS := (sCons (sSet 1 (e2 kIxT (eVar 0) (eC (.int 0)))) (sCons (sIf (eT (e2 (kEq false) (eVar 1) (eC (.str "call")))) (sRet (eCB kTuple (aCons (eSortSet (eCB kList (aCons (e2 kIxT (eVar 0) (eC (.int 2))) aNil))) aNil))) sNil) (sCons (sSet 2 (eLst aNil)) (sCons (sFor (iL (eCall 1 f_inside (aCons (eVar 0) aNil))) (gT 2 (gsCons (gN 3) (gsCons (gN 4) gsNil))) (sSet 2 (e2 kCat (eVar 2) (eCB kList (aCons (eCall 1 r_free_in (aCons (eVar 4) aNil)) aNil))))) (sCons (sIf (eT (e2 (kEq false) (eVar 1) (eC (.str "new")))) (sSet 2 (eLc false (iL (eVar 2)) (gN 6) (eT (e2 (kEqD true) (eVar 6) (e2 kIxT (eVar 0) (eC (.int 1))))) (eVar 6))) (sIf (eT (e2 (kInT false) (eVar 1) (eTup (aCons (eC (.str "take")) (aCons (eC (.str "takes")) aNil))))) (sCons (sSet 5 (eIf (eT (e2 (kEq false) (eVar 1) (eC (.str "take")))) (eTup (aCons (e2 kIxT (eVar 0) (eC (.int 2))) aNil)) (e2 kIxT (eVar 0) (eC (.int 2))))) (sSet 2 (e2 kCat (eLst (aCons (e2 kIxT (eVar 0) (eC (.int 1))) aNil)) (eLc false (iL (eVar 2)) (gN 6) (eT (e2 (kInT true) (eVar 6) (eVar 5))) (eVar 6))))) (sIf (eT (e2 (kEq false) (eVar 1) (eC (.str "sends")))) (sSet 2 (e2 kCat (e2 kCat (eLst (aCons (e2 kIxT (eVar 0) (eC (.int 1))) aNil)) (eCB kList (aCons (e2 kIxT (eVar 0) (eC (.int 2))) aNil))) (eVar 2))) (sIf (eT (e2 (kInT false) (eVar 1) (eTup (aCons (eC (.str "send")) (aCons (eC (.str "alike")) (aCons (eC (.str "unlike")) aNil)))))) (sSet 2 (e2 kCat (eLst (aCons (e2 kIxT (eVar 0) (eC (.int 1))) (aCons (e2 kIxT (eVar 0) (eC (.int 2))) aNil))) (eVar 2))) sNil)))) (sRet (eCB kTuple (aCons (eSortSet (eVar 2)) aNil))))))))
def f_free_in : Nat → List W → Store → Res W
  | 0 => fBad
  | n + 1 => defF 7 (b_free_in (f_free_in n))
theorem u_free_in {n : Nat} {w0 : W} {st : Store} : f_free_in (n + 1) [w0] st = fin (b_free_in (f_free_in n) [some w0, none, none, none, none, none, none] st) := rfl
def b_gone_through  : EvS := (sCons (sIf (bOr (bNot (eT (eIsi "tuple" (eVar 0)))) (eT (e2 (kEq true) (eCB kLen (aCons (eVar 0) aNil)) (eC (.int 2))))) (sRaise "BadProgram" ["place"] (aCons (eTup aNil) aNil)) sNil) (sCons (sIf (bOr (bNot (eT (eIsi "tuple" (e2 kIxT (eVar 0) (eC (.int 0)))))) (eT (e2 kGt (eCB kLen (aCons (e2 kIxT (eVar 0) (eC (.int 0))) aNil)) (eC (.int 4))))) (sRaise "BadProgram" ["place"] (aCons (eTup (aCons (eC (.int 0)) aNil)) aNil)) sNil) (sCons (sFor (iEnT (aCons (e2 kIxT (eVar 0) (eC (.int 0))) aNil)) (gT 2 (gsCons (gN 3) (gsCons (gN 4) gsNil))) (sIf (bNot (eT (eCall 1 f_is_head (aCons (eVar 4) aNil)))) (sRaise "BadProgram" ["place"] (aCons (eTup (aCons (eC (.int 0)) (aCons (eVar 3) aNil))) aNil)) sNil)) (sCons (sSet 5 (eCB kTuple (aCons (eLc false (iT (e2 kIxT (eVar 0) (eC (.int 0)))) (gT 2 (gsCons (gN 9) (gsCons (gN 10) gsNil))) bYes (eCB kLen (aCons (eVar 9) aNil))) aNil))) (sCons (sSet 6 (eDisp ["widths", "branch", "body", "behind", "hole", "rows"] (aCons (eVar 5) (aCons (eC (.bl false)) (aCons (eC (.bl true)) (aCons (eC (.bl false)) (aCons (eC (.bl false)) (aCons (eVar 2) aNil)))))))) (sCons (sSet 7 (eC (.int 0))) (sCons (sFor (iEnT (aCons (e2 kIxT (eVar 0) (eC (.int 0))) aNil)) (gT 2 (gsCons (gN 3) (gsCons (gN 4) gsNil))) (sSet 7 (eCall 5 (f_checked 20) (aCons (e2 kIxT (eVar 4) (eC (.int 1))) (aCons (eTup (aCons (eC (.int 0)) (aCons (eVar 3) (aCons (eC (.int 1)) aNil)))) (aCons (eC (.int 1)) (aCons (eVar 7) (aCons (eVar 6) aNil)))))))) (sCons (sDPutV (eVar 6) (eC (.str "body")) (eC (.bl false))) (sCons (sDPutV (eVar 6) (eC (.str "hole")) (eVar 1)) (sCons (sSet 7 (eCall 5 (f_checked 20) (aCons (e2 kIxT (eVar 0) (eC (.int 1))) (aCons (eTup (aCons (eC (.int 1)) aNil)) (aCons (eC (.int 1)) (aCons (eVar 7) (aCons (eVar 6) aNil))))))) (sCons (sFor (iEnT (aCons (e2 kIxT (eVar 0) (eC (.int 0))) aNil)) (gT 2 (gsCons (gN 3) (gsCons (gN 4) gsNil))) (sFor (iT (eCall 1 (f_free_in 20) (aCons (e2 kIxT (eVar 4) (eC (.int 1))) aNil))) (gN 8) (sIf (eT (e2 (kInT true) (eVar 8) (e2 kIxT (eVar 4) (eC (.int 0))))) (sRaise "BadProgram" ["place"] (aCons (eTup (aCons (eC (.int 0)) (aCons (eVar 3) aNil))) aNil)) sNil))) (sRet (eVar 7)))))))))))))
def f_gone_through : List W → Store → Res W := defF 11 (b_gone_through)
theorem u_gone_through {w0 w1 w2 : W} {st : Store} : f_gone_through [w0, w1, w2] st = fin (b_gone_through [some w0, some w1, some w2, none, none, none, none, none, none, none, none] st) := rfl
def b_need_program  : EvS := (sCons (sExpr (eCallD 3 f_gone_through [.bl false] (aCons (eVar 0) (aCons (eC (.bl false)) aNil)))) (sRet (eVar 0)))
def f_need_program : List W → Store → Res W := defF 1 (b_need_program)
theorem u_need_program {w0 : W} {st : Store} : f_need_program [w0] st = fin (b_need_program [some w0] st) := rfl
def b_letters_of  : EvS := (sRet (e2 kCat (e2 kCat (eLst (aCons (eC (.str "(")) aNil)) (eLc false (iT (eVar 0)) (gN 1) bYes (e2 kIxS (eC (.str "abcdefghij")) (eVar 1)))) (eLst (aCons (eC (.str ")")) aNil))))
def f_letters_of : List W → Store → Res W := defF 2 (b_letters_of)
theorem u_letters_of {w0 : W} {st : Store} : f_letters_of [w0] st = fin (b_letters_of [some w0, none] st) := rfl
def b_piece_words (r_piece_words : List W → Store → Res W) : EvS := (sCons (sSet 1 (e2 kIxT (eVar 0) (eC (.int 0)))) (sCons (sIf (eT (e2 (kInT false) (eVar 1) (eTup (aCons (eC (.str "one")) (aCons (eC (.str "beside")) aNil))))) (sCons (sSet 2 (eLst (aCons (eIf (eT (e2 (kEq false) (eVar 1) (eC (.str "one")))) (eC (.str "(")) (eC (.str "["))) aNil))) (sCons (sFor (iEnT (aCons (e2 kIxT (eVar 0) (eC (.int 1))) aNil)) (gT 2 (gsCons (gN 3) (gsCons (gN 4) gsNil))) (sCons (sSet 5 (eIf (eT (e2 kGt (eVar 3) (eC (.int 0)))) (eLst (aCons (eIf (eT (e2 (kEq false) (eVar 1) (eC (.str "one")))) (eC (.str "+")) (eC (.str "/"))) aNil)) (eLst aNil))) (sSet 2 (e2 kCat (e2 kCat (eVar 2) (eVar 5)) (eCall 1 r_piece_words (aCons (eVar 4) aNil)))))) (sRet (e2 kCat (eVar 2) (eLst (aCons (eIf (eT (e2 (kEq false) (eVar 1) (eC (.str "one")))) (eC (.str ")")) (eC (.str "]"))) aNil)))))) sNil) (sCons (sIf (eT (e2 (kEq false) (eVar 1) (eC (.str "wait")))) (sRet (e2 kCat (eLst (aCons (eVar 1) aNil)) (eCall 1 r_piece_words (aCons (e2 kIxT (eVar 0) (eC (.int 1))) aNil)))) sNil) (sCons (sIf (eT (e2 (kEq false) (eVar 1) (eC (.str "new")))) (sRet (e2 kCat (eLst (aCons (eVar 1) (aCons (e2 kIxS (eC (.str "abcdefghij")) (e2 kIxT (eVar 0) (eC (.int 1)))) aNil))) (eCall 1 r_piece_words (aCons (e2 kIxT (eVar 0) (eC (.int 2))) aNil)))) sNil) (sCons (sIf (eT (e2 (kEq false) (eVar 1) (eC (.str "call")))) (sRet (e2 kCat (eLst (aCons (eVar 1) (aCons (eCB kStr (aCons (e2 kIxT (eVar 0) (eC (.int 1))) aNil)) aNil))) (eCall 1 f_letters_of (aCons (e2 kIxT (eVar 0) (eC (.int 2))) aNil)))) sNil) (sRet (e2 kCat (eLst (aCons (eVar 1) (aCons (e2 kIxS (eC (.str "abcdefghij")) (e2 kIxT (eVar 0) (eC (.int 1)))) (aCons (e2 kIxS (eC (.str "abcdefghij")) (e2 kIxT (eVar 0) (eC (.int 2)))) aNil)))) (eCall 1 r_piece_words (aCons (e2 kIxT (eVar 0) (eC (.int 3))) aNil)))))))))
def f_piece_words : Nat → List W → Store → Res W
  | 0 => fBad
  | n + 1 => defF 6 (b_piece_words (f_piece_words n))
theorem u_piece_words {n : Nat} {w0 : W} {st : Store} : f_piece_words (n + 1) [w0] st = fin (b_piece_words (f_piece_words n) [some w0, none, none, none, none, none] st) := rfl
def b_program_words  : EvS := (sCons (sSet 1 (eLst aNil)) (sCons (sFor (iT (e2 kIxT (eVar 0) (eC (.int 0)))) (gT 2 (gsCons (gN 2) (gsCons (gN 3) gsNil))) (sSet 1 (e2 kCat (e2 kCat (e2 kCat (e2 kCat (eVar 1) (eLst (aCons (eC (.str "def")) aNil))) (eCall 1 f_letters_of (aCons (eVar 2) aNil))) (eCall 1 (f_piece_words 20) (aCons (eVar 3) aNil))) (eLst (aCons (eC (.str ";")) aNil))))) (sRet (e2 kCat (eVar 1) (eCall 1 (f_piece_words 20) (aCons (e2 kIxT (eVar 0) (eC (.int 1))) aNil))))))
def f_program_words : List W → Store → Res W := defF 4 (b_program_words)
theorem u_program_words {w0 : W} {st : Store} : f_program_words [w0] st = fin (b_program_words [some w0, none, none, none] st) := rfl
def b_program_text  : EvS := (sCons (sExpr (eCall 1 f_need_program (aCons (eVar 0) aNil))) (sRet (eM isS kJoin (eC (.str " ")) (aCons (eCall 1 f_program_words (aCons (eVar 0) aNil)) aNil))))
def f_program_text : List W → Store → Res W := defF 1 (b_program_text)
theorem u_program_text {w0 : W} {st : Store} : f_program_text [w0] st = fin (b_program_text [some w0] st) := rfl
def b_read_program  : EvS := (sCons (sIf (bNot (eT (eIsi "str" (eVar 0)))) (sRaise "BadText" ["line", "word"] (aCons (eC (.int 0)) (aCons (eC (.int 0)) aNil))) sNil) (sRet (eCall 1 f_need_program (aCons (eCall 3 f_program_from (aCons (eCall 1 f_words_of (aCons (eVar 0) aNil)) (aCons (eC (.int 0)) (aCons (eC (.int 0)) aNil)))) aNil))))
def f_read_program : List W → Store → Res W := defF 1 (b_read_program)
theorem u_read_program {w0 : W} {st : Store} : f_read_program [w0] st = fin (b_read_program [some w0] st) := rfl
def b__law_mixed  : EvS := (sCons (sSet 0 (e2 kMod (eCB kInt (aCons (eVar 0) aNil)) (eC (.int 2147483647)))) (sRet (e2 kMod (e2 kMul (e2 kMod (e2 kAdd (e2 kAdd (e2 kMul (eVar 0) (e2 kAdd (eC (.int 48271)) (e2 kMul (e2 kMul (eC (.int 2)) (eVar 1)) (eVar 1)))) (e2 kMul (eC (.int 69621)) (eVar 1))) (eC (.int 11))) (eC (.int 2147483647))) (eC (.int 69621))) (eC (.int 2147483629)))))
def f__law_mixed : List W → Store → Res W := defF 2 (b__law_mixed)
theorem u__law_mixed {w0 w1 : W} {st : Store} : f__law_mixed [w0, w1] st = fin (b__law_mixed [some w0, some w1] st) := rfl
def b__law_begin  : EvS := (sCons (sSet 1 (eIf (eT (e2 (kEqD true) (eVar 0) (eLst aNil))) (eCB kList (aCons (eVar 0) aNil)) (eLst (aCons (eC (.int 0)) aNil)))) (sRet (eDisp ["cells", "lefts", "at"] (aCons (eVar 1) (aCons (eLc true (iL (eVar 1)) (gN 2) bYes (eIf (eT (e2 kGe (eVar 2) (e2 kPow (eC (.int 10)) (eC (.int 18))))) (eVar 2) (eC (.int 0)))) (aCons (eC (.int 0)) aNil))))))
def f__law_begin : List W → Store → Res W := defF 3 (b__law_begin)
theorem u__law_begin {w0 : W} {st : Store} : f__law_begin [w0] st = fin (b__law_begin [some w0, none, none] st) := rfl
def b__law_draw  : EvS := (sCons (sSet 2 (e2 kDGet (eVar 0) (eC (.str "at")))) (sCons (sDPutV (eVar 0) (eC (.str "at")) (e2 kAdd (eVar 2) (eC (.int 1)))) (sCons (sSet 3 (e2 kMod (eCB kInt (aCons (eVar 2) aNil)) (eCB kLen (aCons (e2 kDGet (eVar 0) (eC (.str "cells"))) aNil)))) (sCons (sSet 4 (e2 kIx (e2 kDGet (eVar 0) (eC (.str "lefts"))) (eVar 3))) (sCons (sIf (eT (e2 kGt (eVar 4) (eC (.int 0)))) (sCons (sAsg (e2 kDiv (eVar 4) (eVar 1)) (gIx (e2 kDGet (eVar 0) (eC (.str "lefts"))) (eVar 3))) (sRet (e2 kMod (eCB kInt (aCons (eVar 4) aNil)) (eVar 1)))) sNil) (sCons (sSet 5 (eCall 2 f__law_mixed (aCons (eCall 2 f__law_mixed (aCons (e2 kIx (e2 kDGet (eVar 0) (eC (.str "cells"))) (eVar 3)) (aCons (eVar 2) aNil))) (aCons (e2 kAdd (eC (.int 40)) (eVar 2)) aNil)))) (sRet (e2 kMod (e2 kDiv (eCB kInt (aCons (e2 kAdd (e2 kMul (eVar 5) (eC (.int 2147483647))) (eCall 2 f__law_mixed (aCons (eVar 5) (aCons (e2 kAdd (eC (.int 7)) (eVar 2)) aNil)))) aNil)) (eC (.int 64))) (eVar 1)))))))))
def f__law_draw : List W → Store → Res W := defF 6 (b__law_draw)
theorem u__law_draw {w0 w1 : W} {st : Store} : f__law_draw [w0, w1] st = fin (b__law_draw [some w0, some w1, none, none, none, none] st) := rfl
def b__law_of  : EvS := (sRet (e2 kIx (eVar 1) (eCall 2 f__law_draw (aCons (eVar 0) (aCons (eCB kLen (aCons (eVar 1) aNil)) aNil)))))
def f__law_of : List W → Store → Res W := defF 2 (b__law_of)
theorem u__law_of {w0 w1 : W} {st : Store} : f__law_of [w0, w1] st = fin (b__law_of [some w0, some w1] st) := rfl
def b__law_like  : EvS := (sRet (e2 (kEq false) (eCB kRepr (aCons (eVar 0) aNil)) (eCB kRepr (aCons (eVar 1) aNil))))
def f__law_like : List W → Store → Res W := defF 2 (b__law_like)
theorem u__law_like {w0 w1 : W} {st : Store} : f__law_like [w0, w1] st = fin (b__law_like [some w0, some w1] st) := rfl
def b__law_letter  : EvS := (sRet (e2 kIxS (eC (.str "abcdefghij")) (eVar 0)))
def f__law_letter : List W → Store → Res W := defF 1 (b__law_letter)
theorem u__law_letter {w0 : W} {st : Store} : f__law_letter [w0] st = fin (b__law_letter [some w0] st) := rfl
def b__law_branch (r__law_branch : List W → Store → Res W) (r__law_piece : List W → Store → Res W) : EvS := (sCons (sPar3 4 5 6 (aCons (eCall 2 f__law_draw (aCons (eVar 0) (aCons (eC (.int 7)) aNil))) (aCons (eCall 2 f__law_draw (aCons (eVar 0) (aCons (eC (.int 10)) aNil))) (aCons (eCall 2 f__law_draw (aCons (eVar 0) (aCons (eC (.int 10)) aNil))) aNil)))) (sCons (sIf (bAnd (eT (e2 kGt (eVar 1) (eC (.int 1)))) (eT (e2 kLt (eVar 4) (eC (.int 2))))) (sRet (eTup (aCons (e2 kIx (eLst (aCons (eC (.str "alike")) (aCons (eC (.str "unlike")) aNil))) (eVar 4)) (aCons (eVar 5) (aCons (eVar 6) (aCons (eCall 4 r__law_branch (aCons (eVar 0) (aCons (e2 kSub (eVar 1) (eC (.int 1))) (aCons (eVar 2) (aCons (eVar 3) aNil))))) aNil)))))) sNil) (sCons (sIf (eT (e2 kLt (eVar 4) (eC (.int 4)))) (sRet (eTup (aCons (eC (.str "send")) (aCons (eVar 5) (aCons (eVar 6) (aCons (eCall 4 r__law_piece (aCons (eVar 0) (aCons (e2 kSub (eVar 1) (eC (.int 1))) (aCons (eVar 2) (aCons (eC (.bl true)) aNil))))) aNil)))))) sNil) (sCons (sIf (eT (e2 kLt (eVar 4) (eC (.int 6)))) (sRet (eTup (aCons (eC (.str "take")) (aCons (eVar 5) (aCons (eVar 6) (aCons (eCall 4 r__law_piece (aCons (eVar 0) (aCons (e2 kSub (eVar 1) (eC (.int 1))) (aCons (eVar 2) (aCons (eC (.bl true)) aNil))))) aNil)))))) sNil) (sRet (eTup (aCons (eC (.str "wait")) (aCons (eCall 4 r__law_piece (aCons (eVar 0) (aCons (e2 kSub (eVar 1) (eC (.int 1))) (aCons (eVar 2) (aCons (eC (.bl true)) aNil))))) aNil))))))))
def b__law_piece (r__law_branch : List W → Store → Res W) (r__law_piece : List W → Store → Res W) : EvS := (sCons (sIf (eT (e2 kLt (eVar 1) (eC (.int 1)))) (sCons (sIf (bAnd (eT (eVar 3)) (bAnd (eT (e2 (kEqD true) (eVar 2) (eLst aNil))) (eT (e2 (kEq false) (eCall 2 f__law_draw (aCons (eVar 0) (aCons (eC (.int 2)) aNil))) (eC (.int 0)))))) (sCons (sSet 4 (eCall 2 f__law_draw (aCons (eVar 0) (aCons (eCB kLen (aCons (eVar 2) aNil)) aNil)))) (sRet (eTup (aCons (eC (.str "call")) (aCons (eVar 4) (aCons (eCB kTuple (aCons (eLc false (iRange (aCons (e2 kIx (eVar 2) (eVar 4)) aNil)) (gN 8) bYes (eCall 2 f__law_draw (aCons (eVar 0) (aCons (eC (.int 10)) aNil)))) aNil)) aNil)))))) sNil) (sRet (eTup (aCons (eC (.str "one")) (aCons (eTup aNil) aNil))))) sNil) (sCons (sSet 5 (eCall 2 f__law_draw (aCons (eVar 0) (aCons (eC (.int 6)) aNil)))) (sCons (sIf (eT (e2 kLt (eVar 5) (eC (.int 2)))) (sRet (eCall 4 r__law_branch (aCons (eVar 0) (aCons (eVar 1) (aCons (eVar 2) (aCons (eVar 3) aNil)))))) sNil) (sCons (sIf (eT (e2 (kEq false) (eVar 5) (eC (.int 2)))) (sRet (eTup (aCons (eC (.str "new")) (aCons (eCall 2 f__law_draw (aCons (eVar 0) (aCons (eC (.int 10)) aNil))) (aCons (eCall 4 r__law_piece (aCons (eVar 0) (aCons (e2 kSub (eVar 1) (eC (.int 1))) (aCons (eVar 2) (aCons (eVar 3) aNil))))) aNil))))) sNil) (sCons (sSet 6 (eCall 2 f__law_draw (aCons (eVar 0) (aCons (eC (.int 4)) aNil)))) (sCons (sIf (bOr (eT (e2 kLt (eVar 5) (eC (.int 5)))) (bNot (eT (eVar 3)))) (sCons (sSet 7 (eLc false (iRange (aCons (eVar 6) aNil)) (gN 8) bYes (eCall 4 r__law_branch (aCons (eVar 0) (aCons (e2 kSub (eVar 1) (eC (.int 1))) (aCons (eVar 2) (aCons (eVar 3) aNil))))))) (sRet (eTup (aCons (eC (.str "one")) (aCons (eCB kTuple (aCons (eVar 7) aNil)) aNil))))) sNil) (sRet (eIf (eT (e2 (kEqD true) (eVar 2) (eLst aNil))) (eTup (aCons (eC (.str "call")) (aCons (eC (.int 0)) (aCons (e2 kRepT (eTup (aCons (eC (.int 1)) aNil)) (e2 kIx (eVar 2) (eC (.int 0)))) aNil)))) (eTup (aCons (eC (.str "one")) (aCons (eTup aNil) aNil)))))))))))
def g_branch_piece : Nat → (List W → Store → Res W) × (List W → Store → Res W)
  | 0 => (fBad, fBad)
  | n + 1 => (defF 7 (b__law_branch (g_branch_piece n).1 (g_branch_piece n).2), defF 9 (b__law_piece (g_branch_piece n).1 (g_branch_piece n).2))
def f__law_branch (n : Nat) : List W → Store → Res W := (g_branch_piece n).1
def f__law_piece (n : Nat) : List W → Store → Res W := (g_branch_piece n).2
theorem u__law_branch {n : Nat} {w0 w1 w2 w3 : W} {st : Store} : f__law_branch (n + 1) [w0, w1, w2, w3] st = fin (b__law_branch (f__law_branch n) (f__law_piece n) [some w0, some w1, some w2, some w3, none, none, none] st) := rfl
theorem u__law_piece {n : Nat} {w0 w1 w2 w3 : W} {st : Store} : f__law_piece (n + 1) [w0, w1, w2, w3] st = fin (b__law_piece (f__law_branch n) (f__law_piece n) [some w0, some w1, some w2, some w3, none, none, none, none, none] st) := rfl
def b__law_main  : EvS := (sCons (sIf (eT (e2 (kEq false) (eCall 2 f__law_draw (aCons (eVar 0) (aCons (eC (.int 2)) aNil))) (eC (.int 0)))) (sRet (eCall 4 (f__law_piece 20) (aCons (eVar 0) (aCons (eVar 1) (aCons (eVar 2) (aCons (eC (.bl true)) aNil)))))) sNil) (sCons (sSet 3 (eCall 2 f__law_draw (aCons (eVar 0) (aCons (eC (.int 4)) aNil)))) (sCons (sSet 4 (eLc true (iRange (aCons (eVar 3) aNil)) (gN 5) bYes (eCall 4 (f__law_piece 20) (aCons (eVar 0) (aCons (e2 kSub (eVar 1) (eC (.int 1))) (aCons (eVar 2) (aCons (eC (.bl true)) aNil))))))) (sCons (sIf (bAnd (eT (e2 (kEq false) (eCall 2 f__law_draw (aCons (eVar 0) (aCons (eC (.int 3)) aNil))) (eC (.int 0)))) (eT (e2 (kEqD true) (eVar 4) (eLst aNil)))) (sAsg (eTup (aCons (eC (.str "beside")) (aCons (eTup (aCons (e2 kIx (eVar 4) (eC (.int 0))) aNil)) aNil))) (gIx (eVar 4) (eC (.int 0)))) sNil) (sRet (eTup (aCons (eC (.str "beside")) (aCons (eCB kTuple (aCons (eVar 4) aNil)) aNil))))))))
def f__law_main : List W → Store → Res W := defF 6 (b__law_main)
theorem u__law_main {w0 w1 w2 : W} {st : Store} : f__law_main [w0, w1, w2] st = fin (b__law_main [some w0, some w1, some w2, none, none, none] st) := rfl
def b__law_closed (r__law_closed : List W → Store → Res W) : EvS := (sCons (sSet 3 (e2 kIxT (eVar 0) (eC (.int 0)))) (sCons (sIf (eT (e2 (kInT false) (eVar 3) (eTup (aCons (eC (.str "one")) (aCons (eC (.str "beside")) aNil))))) (sRet (eTup (aCons (eVar 3) (aCons (eCB kTuple (aCons (eLc false (iT (e2 kIxT (eVar 0) (eC (.int 1)))) (gN 7) bYes (eCall 3 r__law_closed (aCons (eVar 7) (aCons (eVar 1) (aCons (eVar 2) aNil))))) aNil)) aNil)))) sNil) (sCons (sIf (eT (e2 (kEq false) (eVar 3) (eC (.str "wait")))) (sRet (eTup (aCons (eVar 3) (aCons (eCall 3 r__law_closed (aCons (e2 kIxT (eVar 0) (eC (.int 1))) (aCons (eVar 1) (aCons (eVar 2) aNil)))) aNil)))) sNil) (sCons (sSet 4 (e2 kCat (eVar 1) (eVar 2))) (sCons (sIf (eT (e2 (kEq false) (eVar 3) (eC (.str "call")))) (sRet (eTup (aCons (eVar 3) (aCons (e2 kIxT (eVar 0) (eC (.int 1))) (aCons (eCB kTuple (aCons (eLc false (iT (e2 kIxT (eVar 0) (eC (.int 2)))) (gN 8) bYes (eIf (eT (e2 (kInL false) (eVar 8) (eVar 4))) (eVar 8) (e2 kIx (eVar 1) (eC (.int 0))))) aNil)) aNil))))) sNil) (sCons (sIf (eT (e2 (kEq false) (eVar 3) (eC (.str "new")))) (sRet (eTup (aCons (eVar 3) (aCons (e2 kIxT (eVar 0) (eC (.int 1))) (aCons (eCall 3 r__law_closed (aCons (e2 kIxT (eVar 0) (eC (.int 2))) (aCons (eVar 1) (aCons (e2 kCat (eVar 2) (eLst (aCons (e2 kIxT (eVar 0) (eC (.int 1))) aNil))) aNil)))) aNil))))) sNil) (sCons (sSet 5 (eIf (eT (e2 (kInL false) (e2 kIxT (eVar 0) (eC (.int 1))) (eVar 4))) (e2 kIxT (eVar 0) (eC (.int 1))) (e2 kIx (eVar 1) (eC (.int 0))))) (sCons (sIf (eT (e2 (kEq false) (eVar 3) (eC (.str "take")))) (sRet (eTup (aCons (eVar 3) (aCons (eVar 5) (aCons (e2 kIxT (eVar 0) (eC (.int 2))) (aCons (eCall 3 r__law_closed (aCons (e2 kIxT (eVar 0) (eC (.int 3))) (aCons (eVar 1) (aCons (e2 kCat (eVar 2) (eLst (aCons (e2 kIxT (eVar 0) (eC (.int 2))) aNil))) aNil)))) aNil)))))) sNil) (sCons (sSet 6 (eIf (eT (e2 (kInL false) (e2 kIxT (eVar 0) (eC (.int 2))) (eVar 4))) (e2 kIxT (eVar 0) (eC (.int 2))) (e2 kIx (eVar 1) (eC (.int 0))))) (sRet (eTup (aCons (eVar 3) (aCons (eVar 5) (aCons (eVar 6) (aCons (eCall 3 r__law_closed (aCons (e2 kIxT (eVar 0) (eC (.int 3))) (aCons (eVar 1) (aCons (eVar 2) aNil)))) aNil)))))))))))))))
def f__law_closed : Nat → List W → Store → Res W
  | 0 => fBad
  | n + 1 => defF 9 (b__law_closed (f__law_closed n))
theorem u__law_closed {n : Nat} {w0 w1 w2 : W} {st : Store} : f__law_closed (n + 1) [w0, w1, w2] st = fin (b__law_closed (f__law_closed n) [some w0, some w1, some w2, none, none, none, none, none, none] st) := rfl
def b__law_drawn  : EvS := (sCons (sPar 1 2 (aCons (eLc false (iRange (aCons (eCall 2 f__law_draw (aCons (eVar 0) (aCons (eC (.int 5)) aNil))) aNil)) (gN 7) bYes (e2 kAdd (eC (.int 1)) (eCall 2 f__law_draw (aCons (eVar 0) (aCons (eC (.int 3)) aNil))))) (aCons (eTup aNil) aNil))) (sCons (sFor (iL (eVar 1)) (gN 3) (sCons (sSet 4 (eCall 2 f__law_draw (aCons (eVar 0) (aCons (eC (.int 10)) aNil)))) (sCons (sSet 5 (eCB kTuple (aCons (eLc false (iRange (aCons (eVar 3) aNil)) (gN 8) bYes (e2 kMod (eCB kInt (aCons (e2 kAdd (eVar 4) (e2 kMul (eC (.int 3)) (eVar 8))) aNil)) (eC (.int 10)))) aNil))) (sCons (sSet 6 (eCall 3 (f__law_closed 20) (aCons (eCall 4 (f__law_piece 20) (aCons (eVar 0) (aCons (eC (.int 2)) (aCons (eVar 1) (aCons (eC (.bl false)) aNil))))) (aCons (eCB kList (aCons (eVar 5) aNil)) (aCons (eLst aNil) aNil))))) (sSet 2 (e2 kCatT (eVar 2) (eTup (aCons (eTup (aCons (eVar 5) (aCons (eVar 6) aNil))) aNil)))))))) (sRet (eTup (aCons (eVar 2) (aCons (eCall 3 f__law_main (aCons (eVar 0) (aCons (eC (.int 3)) (aCons (eVar 1) aNil)))) aNil))))))
def f__law_drawn : List W → Store → Res W := defF 9 (b__law_drawn)
theorem u__law_drawn {w0 : W} {st : Store} : f__law_drawn [w0] st = fin (b__law_drawn [some w0, none, none, none, none, none, none, none, none] st) := rfl
def b__law_words_of (r__law_words_of : List W → Store → Res W) : EvS := (sCons (sSet 1 (e2 kIxT (eVar 0) (eC (.int 0)))) (sCons (sIf (eT (e2 (kEq false) (eVar 1) (eC (.str "one")))) (sCons (sSet 2 (eLst aNil)) (sCons (sFor (iT (e2 kIxT (eVar 0) (eC (.int 1)))) (gN 3) (sSet 2 (e2 kCat (e2 kCat (eVar 2) (eLst (aCons (eC (.str "+")) aNil))) (eCall 1 r__law_words_of (aCons (eVar 3) aNil))))) (sRet (e2 kCat (e2 kCat (eLst (aCons (eC (.str "(")) aNil)) (eSl (eVar 2) (oI (eC (.int 1))) oNo)) (eLst (aCons (eC (.str ")")) aNil)))))) sNil) (sCons (sIf (eT (e2 (kEq false) (eVar 1) (eC (.str "beside")))) (sCons (sSet 2 (eLst aNil)) (sCons (sFor (iT (e2 kIxT (eVar 0) (eC (.int 1)))) (gN 3) (sSet 2 (e2 kCat (e2 kCat (eVar 2) (eLst (aCons (eC (.str "/")) aNil))) (eCall 1 r__law_words_of (aCons (eVar 3) aNil))))) (sRet (e2 kCat (e2 kCat (eLst (aCons (eC (.str "[")) aNil)) (eSl (eVar 2) (oI (eC (.int 1))) oNo)) (eLst (aCons (eC (.str "]")) aNil)))))) sNil) (sCons (sIf (eT (e2 (kEq false) (eVar 1) (eC (.str "wait")))) (sRet (e2 kCat (eLst (aCons (eVar 1) aNil)) (eCall 1 r__law_words_of (aCons (e2 kIxT (eVar 0) (eC (.int 1))) aNil)))) sNil) (sCons (sIf (eT (e2 (kEq false) (eVar 1) (eC (.str "new")))) (sRet (e2 kCat (eLst (aCons (eVar 1) (aCons (eCall 1 f__law_letter (aCons (e2 kIxT (eVar 0) (eC (.int 1))) aNil)) aNil))) (eCall 1 r__law_words_of (aCons (e2 kIxT (eVar 0) (eC (.int 2))) aNil)))) sNil) (sCons (sIf (eT (e2 (kEq false) (eVar 1) (eC (.str "call")))) (sRet (e2 kCat (e2 kCat (eLst (aCons (eVar 1) (aCons (eCB kStr (aCons (e2 kIxT (eVar 0) (eC (.int 1))) aNil)) (aCons (eC (.str "(")) aNil)))) (eLc false (iT (e2 kIxT (eVar 0) (eC (.int 2)))) (gN 4) bYes (eCall 1 f__law_letter (aCons (eVar 4) aNil)))) (eLst (aCons (eC (.str ")")) aNil)))) sNil) (sRet (e2 kCat (eLst (aCons (eVar 1) (aCons (eCall 1 f__law_letter (aCons (e2 kIxT (eVar 0) (eC (.int 1))) aNil)) (aCons (eCall 1 f__law_letter (aCons (e2 kIxT (eVar 0) (eC (.int 2))) aNil)) aNil)))) (eCall 1 r__law_words_of (aCons (e2 kIxT (eVar 0) (eC (.int 3))) aNil))))))))))
def f__law_words_of : Nat → List W → Store → Res W
  | 0 => fBad
  | n + 1 => defF 5 (b__law_words_of (f__law_words_of n))
theorem u__law_words_of {n : Nat} {w0 : W} {st : Store} : f__law_words_of (n + 1) [w0] st = fin (b__law_words_of (f__law_words_of n) [some w0, none, none, none, none] st) := rfl
def b__law_words  : EvS := (sCons (sSet 1 (eLst aNil)) (sCons (sFor (iT (e2 kIxT (eVar 0) (eC (.int 0)))) (gT 2 (gsCons (gN 2) (gsCons (gN 3) gsNil))) (sCons (sSet 1 (e2 kCat (e2 kCat (e2 kCat (eVar 1) (eLst (aCons (eC (.str "def")) (aCons (eC (.str "(")) aNil)))) (eLc false (iT (eVar 2)) (gN 4) bYes (eCall 1 f__law_letter (aCons (eVar 4) aNil)))) (eLst (aCons (eC (.str ")")) aNil)))) (sSet 1 (e2 kCat (e2 kCat (eVar 1) (eCall 1 (f__law_words_of 20) (aCons (eVar 3) aNil))) (eLst (aCons (eC (.str ";")) aNil)))))) (sRet (e2 kCat (eVar 1) (eCall 1 (f__law_words_of 20) (aCons (e2 kIxT (eVar 0) (eC (.int 1))) aNil))))))
def f__law_words : List W → Store → Res W := defF 5 (b__law_words)
theorem u__law_words {w0 : W} {st : Store} : f__law_words [w0] st = fin (b__law_words [some w0, none, none, none, none] st) := rfl
def b__law_spread_out  : EvS := (sCons (sSet 2 (e2 kRepS (eC (.str " ")) (eCall 2 f__law_draw (aCons (eVar 0) (aCons (eC (.int 3)) aNil))))) (sCons (sFor (iL (eVar 1)) (gN 3) (sSet 2 (e2 kAddS (e2 kAddS (eVar 2) (eVar 3)) (e2 kRepS (eC (.str " ")) (e2 kAdd (eC (.int 1)) (eCall 2 f__law_draw (aCons (eVar 0) (aCons (eC (.int 3)) aNil)))))))) (sRet (eVar 2))))
def f__law_spread_out : List W → Store → Res W := defF 4 (b__law_spread_out)
theorem u__law_spread_out {w0 w1 : W} {st : Store} : f__law_spread_out [w0, w1] st = fin (b__law_spread_out [some w0, some w1, none, none] st) := rfl
def b__law_refused (tP : Addr)  : EvS := (sCons (sSet 5 (eCall 2 f__law_of (aCons (eVar 0) (aCons (eLst (aCons (eC .non) (aCons (eTup (aCons (eTup aNil) aNil)) (aCons (eLst (aCons (eTup aNil) (aCons (eTup (aCons (eC (.str "one")) (aCons (eTup aNil) aNil))) aNil))) aNil)))) aNil)))) (sCons (sIf (bNot (eT (eCall 2 f__law_like (aCons (eCaught tP tQ tKinds (eCall 1 f_program_text (aCons (eVar 5) aNil))) (aCons (eLst (aCons (eC (.str "BadProgram")) (aCons (eTup aNil) aNil))) aNil))))) (sRet (eC (.bl false))) sNil) (sCons (sSet 1 (eTup (aCons (eC (.str "one")) (aCons (eTup (aCons (eTup (aCons (eC (.str "one")) (aCons (eTup aNil) aNil))) aNil)) aNil)))) (sCons (sSet 6 (eCall 2 f__law_of (aCons (eVar 0) (aCons (eLst (aCons (eC .non) (aCons (eTup (aCons (eC (.str "one")) aNil)) (aCons (eTup (aCons (eC (.str "send")) (aCons (eC (.int 0)) (aCons (eC (.int 1)) aNil)))) (aCons (eTup (aCons (eC (.str "take")) (aCons (eC (.int 0)) (aCons (eC (.int 10)) (aCons (eTup (aCons (eC (.str "one")) (aCons (eTup aNil) aNil))) aNil))))) (aCons (eVar 1) aNil)))))) aNil)))) (sCons (sSet 2 (eIf (eT (e2 (kEqD false) (eVar 6) (eVar 1))) (eTup (aCons (eC (.int 1)) (aCons (eC (.int 1)) (aCons (eC (.int 0)) aNil)))) (eTup (aCons (eC (.int 1)) aNil)))) (sCons (sIf (bNot (eT (eCall 2 f__law_like (aCons (eCaught tP tQ tKinds (eCall 1 f_program_text (aCons (eTup (aCons (eTup aNil) (aCons (eVar 6) aNil))) aNil))) (aCons (eLst (aCons (eC (.str "BadPiece")) (aCons (eVar 2) aNil))) aNil))))) (sRet (eC (.bl false))) sNil) (sCons (sSet 3 (eCall 2 f__law_of (aCons (eVar 0) (aCons (eLst (aCons (eC .non) (aCons (eC (.int 5)) (aCons (eLst (aCons (eC (.str "(")) (aCons (eC (.str ")")) aNil))) (aCons (eTup (aCons (eC (.str "( )")) aNil)) aNil))))) aNil)))) (sCons (sIf (bNot (eT (eCall 2 f__law_like (aCons (eCaught tP tQ tKinds (eCall 1 f_read_program (aCons (eVar 3) aNil))) (aCons (eLst (aCons (eC (.str "BadText")) (aCons (eC (.int 0)) (aCons (eC (.int 0)) aNil)))) aNil))))) (sRet (eC (.bl false))) sNil) (sCons (sSet 4 (e2 kRepS (eC (.str " ")) (eCall 2 f__law_draw (aCons (eVar 0) (aCons (eC (.int 4)) aNil))))) (sRet (eCall 2 f__law_like (aCons (eCaught tP tQ tKinds (eCall 1 f_read_program (aCons (eVar 4) aNil))) (aCons (eLst (aCons (eC (.str "BadText")) (aCons (eC (.int 0)) (aCons (eC (.int 0)) aNil)))) aNil)))))))))))))
def f__law_refused (tP : Addr) : List W → Store → Res W := defF 7 (b__law_refused tP)
theorem u__law_refused (tP : Addr) {w0 : W} {st : Store} : f__law_refused tP [w0] st = fin (b__law_refused tP [some w0, none, none, none, none, none, none] st) := rfl
def b_law (tP : Addr)  : EvS := (sCons (sSet 1 (eCall 1 f__law_begin (aCons (eVar 0) aNil))) (sCons (sIf (bNot (eT (eCall 1 (f__law_refused tP) (aCons (eVar 1) aNil)))) (sRet (eC (.bl false))) sNil) (sCons (sFor (iRange (aCons (eC (.int 3)) aNil)) (gN 2) (sCons (sSet 3 (eCall 1 f__law_drawn (aCons (eVar 1) aNil))) (sCons (sSet 4 (eCall 1 f__law_words (aCons (eVar 3) aNil))) (sCons (sSet 5 (eM isS kJoin (eC (.str " ")) (aCons (eVar 4) aNil))) (sCons (sIf (bNot (eT (eCall 2 f__law_like (aCons (eLst (aCons (eCall 1 f_program_text (aCons (eVar 3) aNil)) (aCons (eCall 1 f_read_program (aCons (eVar 5) aNil)) aNil))) (aCons (eLst (aCons (eVar 5) (aCons (eVar 3) aNil))) aNil))))) (sRet (eC (.bl false))) sNil) (sIf (bNot (eT (eCall 2 f__law_like (aCons (eCall 1 f_read_program (aCons (eCall 2 f__law_spread_out (aCons (eVar 1) (aCons (eVar 4) aNil))) aNil)) (aCons (eVar 3) aNil))))) (sRet (eC (.bl false))) sNil)))))) (sCons (sSet 6 (eTup (aCons (eTup (aCons (eTup (aCons (eC (.int 0)) aNil)) (aCons (eTup (aCons (eC (.str "take")) (aCons (eC (.int 0)) (aCons (eC (.int 1)) (aCons (eTup (aCons (eC (.str "call")) (aCons (eC (.int 0)) (aCons (eTup (aCons (eC (.int 1)) aNil)) aNil)))) aNil))))) aNil))) aNil))) (sCons (sSet 7 (eCall 1 f_program_text (aCons (eTup (aCons (eVar 6) (aCons (eTup (aCons (eC (.str "beside")) (aCons (eTup (aCons (eTup (aCons (eC (.str "call")) (aCons (eC (.int 0)) (aCons (eTup (aCons (eC (.int 2)) aNil)) aNil)))) (aCons (eTup (aCons (eC (.str "one")) (aCons (eTup aNil) aNil))) aNil))) aNil))) aNil))) aNil))) (sRet (e2 (kEq false) (eVar 7) (eC (.str "def ( a ) take a b call 0 ( b ) ; [ call 0 ( c ) / ( ) ]")))))))))
def f_law (tP : Addr) : List W → Store → Res W := defF 8 (b_law tP)
theorem u_law (tP : Addr) {w0 : W} {st : Store} : f_law tP [w0] st = fin (b_law tP [some w0, none, none, none, none, none, none, none] st) := rfl
end K85
end
section
set_option Elab.async false
set_option linter.all false
set_option maxRecDepth 100000
set_option maxHeartbeats 0
namespace K85
open PySem PySem.Spec PyProof.Rows L2 Vl He H85
structure Told (K : PySem.W.Frag) (mg : Str → Option Value) (base : Heap) : Prop where
  d : SaysD fa fn K
  e : ex K = true
  i : K.In base
  n : base.Ns mainGlobals mg
theorem gl_words_of {K : PySem.W.Frag} {mg : Str → Option Value} {base : Heap} (t : Told K mg base) : mg "words_of" = some (.ref (ga K "words_of")) := glo_ok t.i t.n (t.d.fact 0 (f := .glo "words_of") rfl)
theorem gl_word_at {K : PySem.W.Frag} {mg : Str → Option Value} {base : Heap} (t : Told K mg base) : mg "word_at" = some (.ref (ga K "word_at")) := glo_ok t.i t.n (t.d.fact 1 (f := .glo "word_at") rfl)
theorem gl_need_word {K : PySem.W.Frag} {mg : Str → Option Value} {base : Heap} (t : Told K mg base) : mg "need_word" = some (.ref (ga K "need_word")) := glo_ok t.i t.n (t.d.fact 2 (f := .glo "need_word") rfl)
theorem gl_need_end {K : PySem.W.Frag} {mg : Str → Option Value} {base : Heap} (t : Told K mg base) : mg "need_end" = some (.ref (ga K "need_end")) := glo_ok t.i t.n (t.d.fact 3 (f := .glo "need_end") rfl)
theorem gl_letter_at {K : PySem.W.Frag} {mg : Str → Option Value} {base : Heap} (t : Told K mg base) : mg "letter_at" = some (.ref (ga K "letter_at")) := glo_ok t.i t.n (t.d.fact 4 (f := .glo "letter_at") rfl)
theorem gl_letters_at {K : PySem.W.Frag} {mg : Str → Option Value} {base : Heap} (t : Told K mg base) : mg "letters_at" = some (.ref (ga K "letters_at")) := glo_ok t.i t.n (t.d.fact 5 (f := .glo "letters_at") rfl)
theorem gl_is_number {K : PySem.W.Frag} {mg : Str → Option Value} {base : Heap} (t : Told K mg base) : mg "is_number" = some (.ref (ga K "is_number")) := glo_ok t.i t.n (t.d.fact 6 (f := .glo "is_number") rfl)
theorem gl_number_at {K : PySem.W.Frag} {mg : Str → Option Value} {base : Heap} (t : Told K mg base) : mg "number_at" = some (.ref (ga K "number_at")) := glo_ok t.i t.n (t.d.fact 7 (f := .glo "number_at") rfl)
theorem gl_headed {K : PySem.W.Frag} {mg : Str → Option Value} {base : Heap} (t : Told K mg base) : mg "headed" = some (.ref (ga K "headed")) := glo_ok t.i t.n (t.d.fact 8 (f := .glo "headed") rfl)
theorem gl_may_begin {K : PySem.W.Frag} {mg : Str → Option Value} {base : Heap} (t : Told K mg base) : mg "may_begin" = some (.ref (ga K "may_begin")) := glo_ok t.i t.n (t.d.fact 9 (f := .glo "may_begin") rfl)
theorem gl_listed {K : PySem.W.Frag} {mg : Str → Option Value} {base : Heap} (t : Told K mg base) : mg "listed" = some (.ref (ga K "listed")) := glo_ok t.i t.n (t.d.fact 10 (f := .glo "listed") rfl)
theorem gl_closed {K : PySem.W.Frag} {mg : Str → Option Value} {base : Heap} (t : Told K mg base) : mg "closed" = some (.ref (ga K "closed")) := glo_ok t.i t.n (t.d.fact 11 (f := .glo "closed") rfl)
theorem gl_is_narrow {K : PySem.W.Frag} {mg : Str → Option Value} {base : Heap} (t : Told K mg base) : mg "is_narrow" = some (.ref (ga K "is_narrow")) := glo_ok t.i t.n (t.d.fact 12 (f := .glo "is_narrow") rfl)
theorem gl_piece_from {K : PySem.W.Frag} {mg : Str → Option Value} {base : Heap} (t : Told K mg base) : mg "piece_from" = some (.ref (ga K "piece_from")) := glo_ok t.i t.n (t.d.fact 13 (f := .glo "piece_from") rfl)
theorem gl_program_from {K : PySem.W.Frag} {mg : Str → Option Value} {base : Heap} (t : Told K mg base) : mg "program_from" = some (.ref (ga K "program_from")) := glo_ok t.i t.n (t.d.fact 14 (f := .glo "program_from") rfl)
theorem gl_is_from {K : PySem.W.Frag} {mg : Str → Option Value} {base : Heap} (t : Told K mg base) : mg "is_from" = some (.ref (ga K "is_from")) := glo_ok t.i t.n (t.d.fact 15 (f := .glo "is_from") rfl)
theorem gl_is_name {K : PySem.W.Frag} {mg : Str → Option Value} {base : Heap} (t : Told K mg base) : mg "is_name" = some (.ref (ga K "is_name")) := glo_ok t.i t.n (t.d.fact 16 (f := .glo "is_name") rfl)
theorem gl_are_names {K : PySem.W.Frag} {mg : Str → Option Value} {base : Heap} (t : Told K mg base) : mg "are_names" = some (.ref (ga K "are_names")) := glo_ok t.i t.n (t.d.fact 17 (f := .glo "are_names") rfl)
theorem gl_is_branch {K : PySem.W.Frag} {mg : Str → Option Value} {base : Heap} (t : Told K mg base) : mg "is_branch" = some (.ref (ga K "is_branch")) := glo_ok t.i t.n (t.d.fact 18 (f := .glo "is_branch") rfl)
theorem gl_has_shape {K : PySem.W.Frag} {mg : Str → Option Value} {base : Heap} (t : Told K mg base) : mg "has_shape" = some (.ref (ga K "has_shape")) := glo_ok t.i t.n (t.d.fact 19 (f := .glo "has_shape") rfl)
theorem gl_inside {K : PySem.W.Frag} {mg : Str → Option Value} {base : Heap} (t : Told K mg base) : mg "inside" = some (.ref (ga K "inside")) := glo_ok t.i t.n (t.d.fact 20 (f := .glo "inside") rfl)
theorem gl_fits {K : PySem.W.Frag} {mg : Str → Option Value} {base : Heap} (t : Told K mg base) : mg "fits" = some (.ref (ga K "fits")) := glo_ok t.i t.n (t.d.fact 21 (f := .glo "fits") rfl)
theorem gl_checked {K : PySem.W.Frag} {mg : Str → Option Value} {base : Heap} (t : Told K mg base) : mg "checked" = some (.ref (ga K "checked")) := glo_ok t.i t.n (t.d.fact 22 (f := .glo "checked") rfl)
theorem gl_is_head {K : PySem.W.Frag} {mg : Str → Option Value} {base : Heap} (t : Told K mg base) : mg "is_head" = some (.ref (ga K "is_head")) := glo_ok t.i t.n (t.d.fact 23 (f := .glo "is_head") rfl)
theorem gl_gone_through {K : PySem.W.Frag} {mg : Str → Option Value} {base : Heap} (t : Told K mg base) : mg "gone_through" = some (.ref (ga K "gone_through")) := glo_ok t.i t.n (t.d.fact 24 (f := .glo "gone_through") rfl)
theorem gl_need_program {K : PySem.W.Frag} {mg : Str → Option Value} {base : Heap} (t : Told K mg base) : mg "need_program" = some (.ref (ga K "need_program")) := glo_ok t.i t.n (t.d.fact 25 (f := .glo "need_program") rfl)
theorem gl_free_in {K : PySem.W.Frag} {mg : Str → Option Value} {base : Heap} (t : Told K mg base) : mg "free_in" = some (.ref (ga K "free_in")) := glo_ok t.i t.n (t.d.fact 26 (f := .glo "free_in") rfl)
theorem gl_letters_of {K : PySem.W.Frag} {mg : Str → Option Value} {base : Heap} (t : Told K mg base) : mg "letters_of" = some (.ref (ga K "letters_of")) := glo_ok t.i t.n (t.d.fact 27 (f := .glo "letters_of") rfl)
theorem gl_piece_words {K : PySem.W.Frag} {mg : Str → Option Value} {base : Heap} (t : Told K mg base) : mg "piece_words" = some (.ref (ga K "piece_words")) := glo_ok t.i t.n (t.d.fact 28 (f := .glo "piece_words") rfl)
theorem gl_program_words {K : PySem.W.Frag} {mg : Str → Option Value} {base : Heap} (t : Told K mg base) : mg "program_words" = some (.ref (ga K "program_words")) := glo_ok t.i t.n (t.d.fact 29 (f := .glo "program_words") rfl)
theorem gl_program_text {K : PySem.W.Frag} {mg : Str → Option Value} {base : Heap} (t : Told K mg base) : mg "program_text" = some (.ref (ga K "program_text")) := glo_ok t.i t.n (t.d.fact 30 (f := .glo "program_text") rfl)
theorem gl_read_program {K : PySem.W.Frag} {mg : Str → Option Value} {base : Heap} (t : Told K mg base) : mg "read_program" = some (.ref (ga K "read_program")) := glo_ok t.i t.n (t.d.fact 31 (f := .glo "read_program") rfl)
theorem gl__law_mixed {K : PySem.W.Frag} {mg : Str → Option Value} {base : Heap} (t : Told K mg base) : mg "_law_mixed" = some (.ref (ga K "_law_mixed")) := glo_ok t.i t.n (t.d.fact 32 (f := .glo "_law_mixed") rfl)
theorem gl__law_begin {K : PySem.W.Frag} {mg : Str → Option Value} {base : Heap} (t : Told K mg base) : mg "_law_begin" = some (.ref (ga K "_law_begin")) := glo_ok t.i t.n (t.d.fact 33 (f := .glo "_law_begin") rfl)
theorem gl__law_draw {K : PySem.W.Frag} {mg : Str → Option Value} {base : Heap} (t : Told K mg base) : mg "_law_draw" = some (.ref (ga K "_law_draw")) := glo_ok t.i t.n (t.d.fact 34 (f := .glo "_law_draw") rfl)
theorem gl__law_of {K : PySem.W.Frag} {mg : Str → Option Value} {base : Heap} (t : Told K mg base) : mg "_law_of" = some (.ref (ga K "_law_of")) := glo_ok t.i t.n (t.d.fact 35 (f := .glo "_law_of") rfl)
theorem gl__law_like {K : PySem.W.Frag} {mg : Str → Option Value} {base : Heap} (t : Told K mg base) : mg "_law_like" = some (.ref (ga K "_law_like")) := glo_ok t.i t.n (t.d.fact 36 (f := .glo "_law_like") rfl)
theorem gl__law_letter {K : PySem.W.Frag} {mg : Str → Option Value} {base : Heap} (t : Told K mg base) : mg "_law_letter" = some (.ref (ga K "_law_letter")) := glo_ok t.i t.n (t.d.fact 37 (f := .glo "_law_letter") rfl)
theorem gl__law_branch {K : PySem.W.Frag} {mg : Str → Option Value} {base : Heap} (t : Told K mg base) : mg "_law_branch" = some (.ref (ga K "_law_branch")) := glo_ok t.i t.n (t.d.fact 38 (f := .glo "_law_branch") rfl)
theorem gl__law_piece {K : PySem.W.Frag} {mg : Str → Option Value} {base : Heap} (t : Told K mg base) : mg "_law_piece" = some (.ref (ga K "_law_piece")) := glo_ok t.i t.n (t.d.fact 39 (f := .glo "_law_piece") rfl)
theorem gl__law_main {K : PySem.W.Frag} {mg : Str → Option Value} {base : Heap} (t : Told K mg base) : mg "_law_main" = some (.ref (ga K "_law_main")) := glo_ok t.i t.n (t.d.fact 40 (f := .glo "_law_main") rfl)
theorem gl__law_closed {K : PySem.W.Frag} {mg : Str → Option Value} {base : Heap} (t : Told K mg base) : mg "_law_closed" = some (.ref (ga K "_law_closed")) := glo_ok t.i t.n (t.d.fact 41 (f := .glo "_law_closed") rfl)
theorem gl__law_drawn {K : PySem.W.Frag} {mg : Str → Option Value} {base : Heap} (t : Told K mg base) : mg "_law_drawn" = some (.ref (ga K "_law_drawn")) := glo_ok t.i t.n (t.d.fact 42 (f := .glo "_law_drawn") rfl)
theorem gl__law_words_of {K : PySem.W.Frag} {mg : Str → Option Value} {base : Heap} (t : Told K mg base) : mg "_law_words_of" = some (.ref (ga K "_law_words_of")) := glo_ok t.i t.n (t.d.fact 43 (f := .glo "_law_words_of") rfl)
theorem gl__law_words {K : PySem.W.Frag} {mg : Str → Option Value} {base : Heap} (t : Told K mg base) : mg "_law_words" = some (.ref (ga K "_law_words")) := glo_ok t.i t.n (t.d.fact 44 (f := .glo "_law_words") rfl)
theorem gl__law_spread_out {K : PySem.W.Frag} {mg : Str → Option Value} {base : Heap} (t : Told K mg base) : mg "_law_spread_out" = some (.ref (ga K "_law_spread_out")) := glo_ok t.i t.n (t.d.fact 45 (f := .glo "_law_spread_out") rfl)
theorem gl__law_caught {K : PySem.W.Frag} {mg : Str → Option Value} {base : Heap} (t : Told K mg base) : mg "_law_caught" = some (.ref (ga K "_law_caught")) := glo_ok t.i t.n (t.d.fact 46 (f := .glo "_law_caught") rfl)
theorem gl__law_refused {K : PySem.W.Frag} {mg : Str → Option Value} {base : Heap} (t : Told K mg base) : mg "_law_refused" = some (.ref (ga K "_law_refused")) := glo_ok t.i t.n (t.d.fact 47 (f := .glo "_law_refused") rfl)
theorem gl_law {K : PySem.W.Frag} {mg : Str → Option Value} {base : Heap} (t : Told K mg base) : mg "law" = some (.ref (ga K "law")) := glo_ok t.i t.n (t.d.fact 48 (f := .glo "law") rfl)
theorem gl_BRANCHES {K : PySem.W.Frag} {mg : Str → Option Value} {base : Heap} (t : Told K mg base) : mg "BRANCHES" = some (.ref (ga K "BRANCHES")) := glo_ok t.i t.n (t.d.fact 49 (f := .glo "BRANCHES") rfl)
theorem gl_PREFIXES {K : PySem.W.Frag} {mg : Str → Option Value} {base : Heap} (t : Told K mg base) : mg "PREFIXES" = some (.ref (ga K "PREFIXES")) := glo_ok t.i t.n (t.d.fact 50 (f := .glo "PREFIXES") rfl)
theorem gl_TESTS {K : PySem.W.Frag} {mg : Str → Option Value} {base : Heap} (t : Told K mg base) : mg "TESTS" = some (.ref (ga K "TESTS")) := glo_ok t.i t.n (t.d.fact 51 (f := .glo "TESTS") rfl)
theorem gl_FOURS {K : PySem.W.Frag} {mg : Str → Option Value} {base : Heap} (t : Told K mg base) : mg "FOURS" = some (.ref (ga K "FOURS")) := glo_ok t.i t.n (t.d.fact 52 (f := .glo "FOURS") rfl)
theorem gl_PassError {K : PySem.W.Frag} {mg : Str → Option Value} {base : Heap} (t : Told K mg base) : mg "PassError" = some (.ref (ga K "PassError")) := glo_ok t.i t.n (t.d.fact 53 (f := .glo "PassError") rfl)
theorem gl_BadPiece {K : PySem.W.Frag} {mg : Str → Option Value} {base : Heap} (t : Told K mg base) : mg "BadPiece" = some (.ref (ga K "BadPiece")) := glo_ok t.i t.n (t.d.fact 54 (f := .glo "BadPiece") rfl)
theorem gl_BadProgram {K : PySem.W.Frag} {mg : Str → Option Value} {base : Heap} (t : Told K mg base) : mg "BadProgram" = some (.ref (ga K "BadProgram")) := glo_ok t.i t.n (t.d.fact 55 (f := .glo "BadProgram") rfl)
theorem gl_BadText {K : PySem.W.Frag} {mg : Str → Option Value} {base : Heap} (t : Told K mg base) : mg "BadText" = some (.ref (ga K "BadText")) := glo_ok t.i t.n (t.d.fact 56 (f := .glo "BadText") rfl)
theorem gl_TooGreat {K : PySem.W.Frag} {mg : Str → Option Value} {base : Heap} (t : Told K mg base) : mg "TooGreat" = some (.ref (ga K "TooGreat")) := glo_ok t.i t.n (t.d.fact 57 (f := .glo "TooGreat") rfl)
theorem fr_len {K : PySem.W.Frag} {mg : Str → Option Value} {base : Heap} (t : Told K mg base) : mg "len" = none := free_ok t.i t.n (t.d.fact 58 (f := .free "len") rfl)
theorem fr_isinstance {K : PySem.W.Frag} {mg : Str → Option Value} {base : Heap} (t : Told K mg base) : mg "isinstance" = none := free_ok t.i t.n (t.d.fact 59 (f := .free "isinstance") rfl)
theorem fr_int {K : PySem.W.Frag} {mg : Str → Option Value} {base : Heap} (t : Told K mg base) : mg "int" = none := free_ok t.i t.n (t.d.fact 60 (f := .free "int") rfl)
theorem fr_str {K : PySem.W.Frag} {mg : Str → Option Value} {base : Heap} (t : Told K mg base) : mg "str" = none := free_ok t.i t.n (t.d.fact 61 (f := .free "str") rfl)
theorem fr_tuple {K : PySem.W.Frag} {mg : Str → Option Value} {base : Heap} (t : Told K mg base) : mg "tuple" = none := free_ok t.i t.n (t.d.fact 62 (f := .free "tuple") rfl)
theorem fr_bool {K : PySem.W.Frag} {mg : Str → Option Value} {base : Heap} (t : Told K mg base) : mg "bool" = none := free_ok t.i t.n (t.d.fact 63 (f := .free "bool") rfl)
theorem fr_enumerate {K : PySem.W.Frag} {mg : Str → Option Value} {base : Heap} (t : Told K mg base) : mg "enumerate" = none := free_ok t.i t.n (t.d.fact 64 (f := .free "enumerate") rfl)
theorem fr_dict {K : PySem.W.Frag} {mg : Str → Option Value} {base : Heap} (t : Told K mg base) : mg "dict" = none := free_ok t.i t.n (t.d.fact 65 (f := .free "dict") rfl)
theorem fr_list {K : PySem.W.Frag} {mg : Str → Option Value} {base : Heap} (t : Told K mg base) : mg "list" = none := free_ok t.i t.n (t.d.fact 66 (f := .free "list") rfl)
theorem fr_set {K : PySem.W.Frag} {mg : Str → Option Value} {base : Heap} (t : Told K mg base) : mg "set" = none := free_ok t.i t.n (t.d.fact 67 (f := .free "set") rfl)
theorem fr_sorted {K : PySem.W.Frag} {mg : Str → Option Value} {base : Heap} (t : Told K mg base) : mg "sorted" = none := free_ok t.i t.n (t.d.fact 68 (f := .free "sorted") rfl)
theorem fr_range {K : PySem.W.Frag} {mg : Str → Option Value} {base : Heap} (t : Told K mg base) : mg "range" = none := free_ok t.i t.n (t.d.fact 69 (f := .free "range") rfl)
theorem fr_repr {K : PySem.W.Frag} {mg : Str → Option Value} {base : Heap} (t : Told K mg base) : mg "repr" = none := free_ok t.i t.n (t.d.fact 70 (f := .free "repr") rfl)
theorem in_MOST_WORDS {K : PySem.W.Frag} {mg : Str → Option Value} {base : Heap} (t : Told K mg base) : ∃ z, mg "MOST_WORDS" = some (.int 400 z) := int_ok t.i t.n (t.d.fact 71 (f := .int "MOST_WORDS" 400) rfl)
theorem in_NAMES {K : PySem.W.Frag} {mg : Str → Option Value} {base : Heap} (t : Told K mg base) : ∃ z, mg "NAMES" = some (.int 10 z) := int_ok t.i t.n (t.d.fact 72 (f := .int "NAMES" 10) rfl)
theorem in_MOST_DEEP {K : PySem.W.Frag} {mg : Str → Option Value} {base : Heap} (t : Told K mg base) : ∃ z, mg "MOST_DEEP" = some (.int 12 z) := int_ok t.i t.n (t.d.fact 73 (f := .int "MOST_DEEP" 12) rfl)
theorem in_MOST_PARTS {K : PySem.W.Frag} {mg : Str → Option Value} {base : Heap} (t : Told K mg base) : ∃ z, mg "MOST_PARTS" = some (.int 80 z) := int_ok t.i t.n (t.d.fact 74 (f := .int "MOST_PARTS" 80) rfl)
theorem in_MOST_BESIDE {K : PySem.W.Frag} {mg : Str → Option Value} {base : Heap} (t : Told K mg base) : ∃ z, mg "MOST_BESIDE" = some (.int 4 z) := int_ok t.i t.n (t.d.fact 75 (f := .int "MOST_BESIDE" 4) rfl)
theorem in_MOST_BRANCHES {K : PySem.W.Frag} {mg : Str → Option Value} {base : Heap} (t : Told K mg base) : ∃ z, mg "MOST_BRANCHES" = some (.int 20 z) := int_ok t.i t.n (t.d.fact 76 (f := .int "MOST_BRANCHES" 20) rfl)
theorem in_MOST_DEFINITIONS {K : PySem.W.Frag} {mg : Str → Option Value} {base : Heap} (t : Told K mg base) : ∃ z, mg "MOST_DEFINITIONS" = some (.int 4 z) := int_ok t.i t.n (t.d.fact 77 (f := .int "MOST_DEFINITIONS" 4) rfl)
theorem in_MOST_PARAMS {K : PySem.W.Frag} {mg : Str → Option Value} {base : Heap} (t : Told K mg base) : ∃ z, mg "MOST_PARAMS" = some (.int 4 z) := int_ok t.i t.n (t.d.fact 78 (f := .int "MOST_PARAMS" 4) rfl)
theorem sr_LETTERS {K : PySem.W.Frag} {mg : Str → Option Value} {base : Heap} (t : Told K mg base) : ∃ z, mg "LETTERS" = some (.str "abcdefghij" z) := str_ok t.i t.n (t.d.fact 79 (f := .str "LETTERS" "abcdefghij") rfl)
theorem ec_BadPiece {K : PySem.W.Frag} {mg : Str → Option Value} {base : Heap} (t : Told K mg base) : ErrC K "BadPiece" ["path"] := errB_ok (ba t.e).1
theorem ec_BadProgram {K : PySem.W.Frag} {mg : Str → Option Value} {base : Heap} (t : Told K mg base) : ErrC K "BadProgram" ["place"] := errB_ok (ba (ba t.e).2).1
theorem ec_BadText {K : PySem.W.Frag} {mg : Str → Option Value} {base : Heap} (t : Told K mg base) : ErrC K "BadText" ["line", "word"] := errB_ok (ba (ba (ba t.e).2).2).1
theorem ec_TooGreat {K : PySem.W.Frag} {mg : Str → Option Value} {base : Heap} (t : Told K mg base) : ErrC K "TooGreat" ["most"] := errB_ok (ba (ba (ba (ba t.e).2).2).2).1
theorem bi_PassError {K : PySem.W.Frag} {mg : Str → Option Value} {base : Heap} (t : Told K mg base) : BIni K mg "PassError" (ga K "PassError") := biniB_ok (ba (ba (ba (ba (ba t.e).2).2).2).2).1 (gl_PassError t)
theorem tu_BRANCHES {K : PySem.W.Frag} {mg : Str → Option Value} {base : Heap} (t : Told K mg base) : tupB K "BRANCHES" (List.map Dv.str ["send", "take", "wait", "alike", "unlike"]) = true := (ba (ba (ba (ba (ba (ba t.e).2).2).2).2).2).1
theorem tu_PREFIXES {K : PySem.W.Frag} {mg : Str → Option Value} {base : Heap} (t : Told K mg base) : tupB K "PREFIXES" (List.map Dv.str ["send", "take", "wait", "sends", "takes"]) = true := (ba (ba (ba (ba (ba (ba (ba t.e).2).2).2).2).2).2).1
theorem tu_TESTS {K : PySem.W.Frag} {mg : Str → Option Value} {base : Heap} (t : Told K mg base) : tupB K "TESTS" (List.map Dv.str ["alike", "unlike"]) = true := (ba (ba (ba (ba (ba (ba (ba (ba t.e).2).2).2).2).2).2).2).1
theorem tu_FOURS {K : PySem.W.Frag} {mg : Str → Option Value} {base : Heap} (t : Told K mg base) : tupB K "FOURS" (List.map Dv.str ["send", "take", "alike", "unlike", "sends", "takes"]) = true := (ba (ba (ba (ba (ba (ba (ba (ba t.e).2).2).2).2).2).2).2).2
theorem sci_BadPiece : FnScope ["self", "path"] ["self", "path"] (defScope (ini 2)) := ⟨rfl, rfl, rfl, by decide +kernel, rfl, by decide +kernel, by decide +kernel⟩
theorem er_BadPiece {P : Program} {w : World} {K : PySem.W.Frag} {mg : Str → Option Value} {base : Heap} (t : Told K mg base) : Er P w K mg base "BadPiece" ["path"] := by
  obtain ⟨fd, F⟩ := t.d.def_ 0 (d := ⟨("BadPiece", some "__init__"), "__init__", "BadPiece.__init__", defArgs (ini 2), defBody (ini 2), defScope (ini 2), [], []⟩) rfl
  exact ⟨ec_BadPiece t, ⟨fd, init_one F sci_BadPiece (ec_BadPiece t).o ((ec_BadPiece t).f _ (by simp)) fun cdv A outer s H E => pss_cons (ps_expr (pe_bini (bi_PassError t) rfl (pa_cons (pe_var (i := 0) rfl (.inl rfl)) (pa_cons pe_str pa_nil)))) (pss_one (ps_ost (pe_var (i := 0) rfl (.inl rfl)) (pe_var (i := 1) rfl (.inl rfl)))), F.bindsN fun _ _ _ _ _ _ us hl => match us, hl with | [_, _], _ => rfl⟩, gl_BadPiece t⟩
theorem sci_BadProgram : FnScope ["self", "place"] ["self", "place"] (defScope (ini 3)) := ⟨rfl, rfl, rfl, by decide +kernel, rfl, by decide +kernel, by decide +kernel⟩
theorem er_BadProgram {P : Program} {w : World} {K : PySem.W.Frag} {mg : Str → Option Value} {base : Heap} (t : Told K mg base) : Er P w K mg base "BadProgram" ["place"] := by
  obtain ⟨fd, F⟩ := t.d.def_ 1 (d := ⟨("BadProgram", some "__init__"), "__init__", "BadProgram.__init__", defArgs (ini 3), defBody (ini 3), defScope (ini 3), [], []⟩) rfl
  exact ⟨ec_BadProgram t, ⟨fd, init_one F sci_BadProgram (ec_BadProgram t).o ((ec_BadProgram t).f _ (by simp)) fun cdv A outer s H E => pss_cons (ps_expr (pe_bini (bi_PassError t) rfl (pa_cons (pe_var (i := 0) rfl (.inl rfl)) (pa_cons pe_str pa_nil)))) (pss_one (ps_ost (pe_var (i := 0) rfl (.inl rfl)) (pe_var (i := 1) rfl (.inl rfl)))), F.bindsN fun _ _ _ _ _ _ us hl => match us, hl with | [_, _], _ => rfl⟩, gl_BadProgram t⟩
theorem sci_BadText : FnScope ["self", "line", "word"] ["self", "line", "word"] (defScope (ini 4)) := ⟨rfl, rfl, rfl, by decide +kernel, rfl, by decide +kernel, by decide +kernel⟩
theorem er_BadText {P : Program} {w : World} {K : PySem.W.Frag} {mg : Str → Option Value} {base : Heap} (t : Told K mg base) : Er P w K mg base "BadText" ["line", "word"] := by
  obtain ⟨fd, F⟩ := t.d.def_ 2 (d := ⟨("BadText", some "__init__"), "__init__", "BadText.__init__", defArgs (ini 4), defBody (ini 4), defScope (ini 4), [], []⟩) rfl
  exact ⟨ec_BadText t, ⟨fd, init_two F sci_BadText (ec_BadText t).o ((ec_BadText t).f _ (by simp)) ((ec_BadText t).f _ (by simp)) fun cdv A outer s H E => pss_cons (ps_expr (pe_bini (bi_PassError t) rfl (pa_cons (pe_var (i := 0) rfl (.inl rfl)) (pa_cons pe_str pa_nil)))) (pss_cons (ps_ost (pe_var (i := 0) rfl (.inl rfl)) (pe_var (i := 1) rfl (.inl rfl))) (pss_one (ps_ost (pe_var (i := 0) rfl (.inl rfl)) (pe_var (i := 2) rfl (.inl rfl))))), F.bindsN fun _ _ _ _ _ _ us hl => match us, hl with | [_, _, _], _ => rfl⟩, gl_BadText t⟩
theorem sci_TooGreat : FnScope ["self", "most"] ["self", "most"] (defScope (ini 5)) := ⟨rfl, rfl, rfl, by decide +kernel, rfl, by decide +kernel, by decide +kernel⟩
theorem er_TooGreat {P : Program} {w : World} {K : PySem.W.Frag} {mg : Str → Option Value} {base : Heap} (t : Told K mg base) : Er P w K mg base "TooGreat" ["most"] := by
  obtain ⟨fd, F⟩ := t.d.def_ 3 (d := ⟨("TooGreat", some "__init__"), "__init__", "TooGreat.__init__", defArgs (ini 5), defBody (ini 5), defScope (ini 5), [], []⟩) rfl
  exact ⟨ec_TooGreat t, ⟨fd, init_one F sci_TooGreat (ec_TooGreat t).o ((ec_TooGreat t).f _ (by simp)) fun cdv A outer s H E => pss_cons (ps_expr (pe_bini (bi_PassError t) rfl (pa_cons (pe_var (i := 0) rfl (.inl rfl)) (pa_cons pe_str pa_nil)))) (pss_one (ps_ost (pe_var (i := 0) rfl (.inl rfl)) (pe_var (i := 1) rfl (.inl rfl)))), F.bindsN fun _ _ _ _ _ _ us hl => match us, hl with | [_, _], _ => rfl⟩, gl_TooGreat t⟩
theorem cls_ {K : PySem.W.Frag} {mg : Str → Option Value} {base : Heap} (t : Told K mg base) : Clses K mg (ga K "BadText") (ga K "BadProgram") (ga K "BadPiece") (ga K "TooGreat") (ga K "PassError") "BadText" "BadProgram" "BadPiece" "TooGreat" "PassError" := ⟨gl_BadText t, gl_BadProgram t, gl_BadPiece t, gl_TooGreat t, gl_PassError t, exm_ok (t.d.fact 85 (f := .exm "BadText" "BadText" true) rfl), exm_ok (t.d.fact 86 (f := .exm "BadProgram" "BadText" false) rfl), exm_ok (t.d.fact 87 (f := .exm "BadProgram" "BadProgram" true) rfl), exm_ok (t.d.fact 88 (f := .exm "BadPiece" "BadText" false) rfl), exm_ok (t.d.fact 89 (f := .exm "BadPiece" "BadProgram" false) rfl), exm_ok (t.d.fact 90 (f := .exm "BadPiece" "BadPiece" true) rfl), exm_ok (t.d.fact 91 (f := .exm "TooGreat" "BadText" false) rfl), exm_ok (t.d.fact 92 (f := .exm "TooGreat" "BadProgram" false) rfl), exm_ok (t.d.fact 93 (f := .exm "TooGreat" "BadPiece" false) rfl), exm_ok (t.d.fact 94 (f := .exm "TooGreat" "TooGreat" true) rfl)⟩
theorem sc_caught : FnScope ["_law_call", "_law_found", "error"] ["_law_call"] (defScope (top 73)) := ⟨rfl, rfl, rfl, by decide +kernel, rfl, by decide +kernel, by decide +kernel⟩
theorem caught_ {X : Cx} {Wx : WX} {p lpos pos : Pos} {params : Arguments} {body : Expr} {scope : Scope} {f : EvE} {c tP : Addr} {k : Nat} (t : Told X.K X.mg X.base) (TB : LamX.TabB X.base X.mg c tP) (hr : Room (k + 2) X.A) (hq : X.env.qual ++ "<lambda>" = tQ) (hcode : X.env.code = .ref c)
    (L : LamX.LamS X.env.scope scope) (hdef : defaultsOf params X.env = ([], [])) (hbind : ∀ (q : Str) (cl : List (Str × Addr)) (pm cv ctv : Value), bindArgs (PySem.W.kla_fn "<lambda>" q params body scope cl pm cv ctv) ⟨[], []⟩ = pure [])
    (hbody : ∀ (A : Around) (outer : List Env) (s : Shared) (H : Hp) (E : XK) (f' c' : Addr), Room k (A.deeper (LamX.lamEnv X scope s.heap.objs.size f' c')) → PV (LamX.lamCx X A outer s H E scope f' c') (ga X.K) (wE E) body f)
    (hg : Gl X "_law_caught" := by rfl) : PV X (ga X.K) Wx (.Call (.Name "_law_caught" p) [.Lambda params body scope lpos] [] pos) (eCaught tP tQ tKinds f) := by
  obtain ⟨fd, F⟩ := t.d.def_ 50 (d := mkD "_law_caught" 73) rfl
  have hb : L2.Binds X.K fd ["_law_call"] [] := F.bindsN fun _ _ _ _ _ _ us hl => match us, hl with | [_], _ => rfl
  obtain ⟨oc, od, dV, kV, doc, pm, an, cdv, ct, osl, rfl, lk, hcd, _, _⟩ := F.ex
  exact pv_caught (Ng := ["_law_call", "_law_found", "error"]) (TK := [(ga X.K "BadText", "BadText", ["line", "word"]), (ga X.K "BadProgram", "BadProgram", ["place"]), (ga X.K "BadPiece", "BadPiece", ["path"]), (ga X.K "TooGreat", "TooGreat", ["most"])]) hg (gl__law_caught t) F.kp lk hcd hb sc_caught rfl (.inl rfl)
    (caught_gives rfl (by decide) rfl rfl rfl (cls_ t) (by decide +kernel) (by decide +kernel) (ec_BadText t).x (ec_BadProgram t).x (ec_BadPiece t).x (ec_TooGreat t).x ((ec_BadText t).f "line" (by simp)) ((ec_BadText t).f "word" (by simp)) ((ec_BadProgram t).f "place" (by simp)) ((ec_BadPiece t).f "path" (by simp)) ((ec_TooGreat t).f "most" (by simp)))
    TB hcode hq hr L hdef hbind (fun n fl h => by
      unfold tKinds at h
      simp only [List.lookup] at h
      split at h <;> rename_i e
      · rw [eq_of_beq e]; cases h; simp
      · split at h <;> rename_i e
        · rw [eq_of_beq e]; cases h; simp
        · split at h <;> rename_i e
          · rw [eq_of_beq e]; cases h; simp
          · split at h <;> rename_i e
            · rw [eq_of_beq e]; cases h; simp
            · cases h) hbody
theorem sc_words_of : FnScope ["text", "word"] ["text"] (defScope (top 9)) := ⟨rfl, rfl, rfl, by decide +kernel, rfl, by decide +kernel, by decide +kernel⟩
theorem ok_words_of {P : Program} {w : World} {K : PySem.W.Frag} {mg : Str → Option Value} {base : Heap} (t : Told K mg base) : Df P w K mg base 3 "words_of" ["text"] f_words_of := by
  obtain ⟨fd, F⟩ := t.d.def_ 4 (d := mkD "words_of" 9) rfl
  exact ⟨⟨fd, fnV F sc_words_of fun cdv A outer s H E hr => (pvs_one (pv_ret (pv_lcIf rfl sc_words_of.nd (piv_list (m_split (vr 0) pv_str)) (blk_by (N := ["text", "word"]) (sc := defScope (top 9)) (own := [("word", 1)]) (by decide +kernel)) (tgt_name 1) (fun _ _ _ _ _ => (pgn_ 1 sc_words_of.nd)) (fun _ _ _ _ _ => (t_ne (vr 1) pv_str)) (fun _ _ _ _ _ => (vr 1))))), F.bindsN fun _ _ _ _ _ _ us hl => match us, hl with | [_], _ => rfl⟩, F.kp, gl_words_of t⟩
theorem sc_word_at : FnScope ["words", "at", "line"] ["words", "at", "line"] (defScope (top 10)) := ⟨rfl, rfl, rfl, by decide +kernel, rfl, by decide +kernel, by decide +kernel⟩
theorem ok_word_at {P : Program} {w : World} {K : PySem.W.Frag} {mg : Str → Option Value} {base : Heap} (t : Told K mg base) : Df P w K mg base 3 "word_at" ["words", "at", "line"] f_word_at := by
  obtain ⟨fd, F⟩ := t.d.def_ 5 (d := mkD "word_at" 10) rfl
  exact ⟨⟨fd, fnV F sc_word_at fun cdv A outer s H E hr => (pvs_cons (pv_ifs (t_ge (vr 1) (c_len rfl (fr_len t) (vr 0))) (pvs_one (pv_raiseO (er_BadText t) rfl hr (by omega) takes_cx rfl (pav_cons (vr 2) (pav_cons (c_len rfl (fr_len t) (vr 0)) pav_nil)))) pvs_nil) (pvs_cons (pv_ifs (t_ge (vr 1) (pv_gI rfl (in_MOST_WORDS t))) (pvs_one (pv_raiseO (er_TooGreat t) rfl hr (by omega) takes_cx rfl (pav_cons (pv_gI rfl (in_MOST_WORDS t)) pav_nil))) pvs_nil) (pvs_one (pv_ret (r_ix (vr 0) (vr 1)))))), F.bindsN fun _ _ _ _ _ _ us hl => match us, hl with | [_, _, _], _ => rfl⟩, F.kp, gl_word_at t⟩
theorem sc_need_word : FnScope ["words", "at", "line", "wanted"] ["words", "at", "line", "wanted"] (defScope (top 11)) := ⟨rfl, rfl, rfl, by decide +kernel, rfl, by decide +kernel, by decide +kernel⟩
theorem ok_need_word {P : Program} {w : World} {K : PySem.W.Frag} {mg : Str → Option Value} {base : Heap} (t : Told K mg base) : Df P w K mg base 4 "need_word" ["words", "at", "line", "wanted"] f_need_word := by
  obtain ⟨fd, F⟩ := t.d.def_ 6 (d := mkD "need_word" 11) rfl
  exact ⟨⟨fd, fnV F sc_need_word fun cdv A outer s H E hr => (pvs_cons (pv_ifs (t_ne (pv_callO (ok_word_at t) hr (by omega) rfl takes_cx (pav_cons (vr 0) (pav_cons (vr 1) (pav_cons (vr 2) pav_nil)))) (vr 3)) (pvs_one (pv_raiseO (er_BadText t) rfl hr (by omega) takes_cx rfl (pav_cons (vr 2) (pav_cons (vr 1) pav_nil)))) pvs_nil) (pvs_one (pv_ret (r_add (vr 1) pv_int)))), F.bindsN fun _ _ _ _ _ _ us hl => match us, hl with | [_, _, _, _], _ => rfl⟩, F.kp, gl_need_word t⟩
theorem sc_need_end : FnScope ["words", "at", "line"] ["words", "at", "line"] (defScope (top 12)) := ⟨rfl, rfl, rfl, by decide +kernel, rfl, by decide +kernel, by decide +kernel⟩
theorem ok_need_end {P : Program} {w : World} {K : PySem.W.Frag} {mg : Str → Option Value} {base : Heap} (t : Told K mg base) : Df P w K mg base 4 "need_end" ["words", "at", "line"] f_need_end := by
  obtain ⟨fd, F⟩ := t.d.def_ 7 (d := mkD "need_end" 12) rfl
  exact ⟨⟨fd, fnV F sc_need_end fun cdv A outer s H E hr => (pvs_one (pv_ifs (t_lt (vr 1) (c_len rfl (fr_len t) (vr 0))) (pvs_cons (pv_expr (pv_callO (ok_word_at t) hr (by omega) rfl takes_cx (pav_cons (vr 0) (pav_cons (vr 1) (pav_cons (vr 2) pav_nil))))) (pvs_one (pv_raiseO (er_BadText t) rfl hr (by omega) takes_cx rfl (pav_cons (vr 2) (pav_cons (vr 1) pav_nil))))) pvs_nil)), F.bindsN fun _ _ _ _ _ _ us hl => match us, hl with | [_, _, _], _ => rfl⟩, F.kp, gl_need_end t⟩
theorem sc_letter_at : FnScope ["words", "at", "line", "word"] ["words", "at", "line"] (defScope (top 13)) := ⟨rfl, rfl, rfl, by decide +kernel, rfl, by decide +kernel, by decide +kernel⟩
theorem ok_letter_at {P : Program} {w : World} {K : PySem.W.Frag} {mg : Str → Option Value} {base : Heap} (t : Told K mg base) : Df P w K mg base 4 "letter_at" ["words", "at", "line"] f_letter_at := by
  obtain ⟨fd, F⟩ := t.d.def_ 8 (d := mkD "letter_at" 13) rfl
  exact ⟨⟨fd, fnV F sc_letter_at fun cdv A outer s H E hr => (pvs_cons (st_ 3 sc_letter_at.nd (pv_callO (ok_word_at t) hr (by omega) rfl takes_cx (pav_cons (vr 0) (pav_cons (vr 1) (pav_cons (vr 2) pav_nil))))) (pvs_cons (pv_ifs (ptv_w (pwv_or (t_ne (c_len rfl (fr_len t) (vr 3)) pv_int) (pwv_or1 (t_ninS (vr 3) (pv_gS rfl (sr_LETTERS t)))))) (pvs_one (pv_raiseO (er_BadText t) rfl hr (by omega) takes_cx rfl (pav_cons (vr 2) (pav_cons (vr 1) pav_nil)))) pvs_nil) (pvs_one (pv_ret (pv_tup (pav_cons (m_index (pv_gS rfl (sr_LETTERS t)) (vr 3)) (pav_cons (r_add (vr 1) pv_int) pav_nil))))))), F.bindsN fun _ _ _ _ _ _ us hl => match us, hl with | [_, _, _], _ => rfl⟩, F.kp, gl_letter_at t⟩
theorem sc_letters_at : FnScope ["words", "start", "line", "at", "found", "name"] ["words", "start", "line"] (defScope (top 14)) := ⟨rfl, rfl, rfl, by decide +kernel, rfl, by decide +kernel, by decide +kernel⟩
theorem ok_letters_at {P : Program} {w : World} {K : PySem.W.Frag} {mg : Str → Option Value} {base : Heap} (t : Told K mg base) : Df P w K mg base 5 "letters_at" ["words", "start", "line"] f_letters_at := by
  obtain ⟨fd, F⟩ := t.d.def_ 9 (d := mkD "letters_at" 14) rfl
  exact ⟨⟨fd, fnV F sc_letters_at fun cdv A outer s H E hr => (pvs_cons (st_ 3 sc_letters_at.nd (pv_callO (ok_need_word t) hr (by omega) rfl takes_cx (pav_cons (vr 0) (pav_cons (vr 1) (pav_cons (vr 2) (pav_cons pv_str pav_nil)))))) (pvs_cons (st_ 4 sc_letters_at.nd (pv_lstM pav_nil)) (pvs_cons (pv_while 1000 owns_cx (t_ne (pv_callO (ok_word_at t) hr (by omega) rfl takes_cx (pav_cons (vr 0) (pav_cons (vr 3) (pav_cons (vr 2) pav_nil)))) pv_str) (pvs_cons (pv_asg (pv_callO (ok_letter_at t) hr (by omega) rfl takes_cx (pav_cons (vr 0) (pav_cons (vr 3) (pav_cons (vr 2) pav_nil)))) (pgv_tup rfl (pgvs_cons (gn_ 5 sc_letters_at.nd) (pgvs_cons (gn_ 3 sc_letters_at.nd) pgvs_nil)))) (pvs_one (pv_expr (m_append (vr 4) (vr 5)))))) (pvs_one (pv_ret (pv_tup (pav_cons (c_tuple rfl (fr_tuple t) (vr 4)) (pav_cons (r_add (vr 3) pv_int) pav_nil)))))))), F.bindsN fun _ _ _ _ _ _ us hl => match us, hl with | [_, _, _], _ => rfl⟩, F.kp, gl_letters_at t⟩
theorem sc_is_number : FnScope ["word", "most", "sign"] ["word", "most"] (defScope (top 15)) := ⟨rfl, rfl, rfl, by decide +kernel, rfl, by decide +kernel, by decide +kernel⟩
theorem ok_is_number {P : Program} {w : World} {K : PySem.W.Frag} {mg : Str → Option Value} {base : Heap} (t : Told K mg base) : Df P w K mg base 3 "is_number" ["word", "most"] f_is_number := by
  obtain ⟨fd, F⟩ := t.d.def_ 10 (d := mkD "is_number" 15) rfl
  exact ⟨⟨fd, fnV F sc_is_number fun cdv A outer s H E hr => (pvs_cons (pv_ifs (ptv_w (pwv_or (ptv_not (t_lele pv_int (c_len rfl (fr_len t) (vr 0)) (vr 1))) (pwv_or1 (t_gt (c_len rfl (fr_len t) (pv_lcIf rfl sc_is_number.nd (piv_str (vr 0)) (blk_by (N := ["word", "most", "sign"]) (sc := defScope (top 15)) (own := [("sign", 2)]) (by decide +kernel)) (tgt_name 2) (fun _ _ _ _ _ => (pgn_ 2 sc_is_number.nd)) (fun _ _ _ _ _ => (t_ninS (vr 2) pv_str)) (fun _ _ _ _ _ => (vr 2)))) pv_int)))) (pvs_one (pv_ret pv_bl)) pvs_nil) (pvs_one (pv_ret (pv_or (v_eq (vr 0) pv_str) (pv_one (pv_not (m_starts (vr 0) pv_str))))))), F.bindsN fun _ _ _ _ _ _ us hl => match us, hl with | [_, _], _ => rfl⟩, F.kp, gl_is_number t⟩
theorem sc_number_at : FnScope ["words", "at", "line", "word"] ["words", "at", "line"] (defScope (top 16)) := ⟨rfl, rfl, rfl, by decide +kernel, rfl, by decide +kernel, by decide +kernel⟩
theorem ok_number_at {P : Program} {w : World} {K : PySem.W.Frag} {mg : Str → Option Value} {base : Heap} (t : Told K mg base) : Df P w K mg base 4 "number_at" ["words", "at", "line"] f_number_at := by
  obtain ⟨fd, F⟩ := t.d.def_ 11 (d := mkD "number_at" 16) rfl
  exact ⟨⟨fd, fnV F sc_number_at fun cdv A outer s H E hr => (pvs_cons (st_ 3 sc_number_at.nd (pv_callO (ok_word_at t) hr (by omega) rfl takes_cx (pav_cons (vr 0) (pav_cons (vr 1) (pav_cons (vr 2) pav_nil))))) (pvs_cons (pv_ifs (ptv_not (ptv_val (pv_callO (ok_is_number t) hr (by omega) rfl takes_cx (pav_cons (vr 3) (pav_cons pv_int pav_nil))))) (pvs_one (pv_raiseO (er_BadText t) rfl hr (by omega) takes_cx rfl (pav_cons (vr 2) (pav_cons (vr 1) pav_nil)))) pvs_nil) (pvs_one (pv_ret (pv_tup (pav_cons (c_intS rfl (fr_int t) (vr 3)) (pav_cons (r_add (vr 1) pv_int) pav_nil))))))), F.bindsN fun _ _ _ _ _ _ us hl => match us, hl with | [_, _, _], _ => rfl⟩, F.kp, gl_number_at t⟩
theorem sc_headed : FnScope ["words", "at", "line", "word", "number", "names", "one", "other"] ["words", "at", "line", "word"] (defScope (top 19)) := ⟨rfl, rfl, rfl, by decide +kernel, rfl, by decide +kernel, by decide +kernel⟩
theorem ok_headed {P : Program} {w : World} {K : PySem.W.Frag} {mg : Str → Option Value} {base : Heap} (t : Told K mg base) : Df P w K mg base 6 "headed" ["words", "at", "line", "word"] f_headed := by
  obtain ⟨fd, F⟩ := t.d.def_ 12 (d := mkD "headed" 19) rfl
  exact ⟨⟨fd, fnV F sc_headed fun cdv A outer s H E hr => (pvs_cons (st_ 1 sc_headed.nd (r_add (vr 1) pv_int)) (pvs_cons (pv_ifs (t_eq (vr 3) pv_str) (pvs_one (pv_ret (pv_tup (pav_cons (pv_tup (pav_cons (vr 3) pav_nil)) (pav_cons (vr 1) pav_nil))))) pvs_nil) (pvs_cons (pv_ifs (t_eq (vr 3) pv_str) (pvs_cons (pv_asg (pv_callO (ok_number_at t) hr (by omega) rfl takes_cx (pav_cons (vr 0) (pav_cons (vr 1) (pav_cons (vr 2) pav_nil)))) (pgv_tup rfl (pgvs_cons (gn_ 4 sc_headed.nd) (pgvs_cons (gn_ 1 sc_headed.nd) pgvs_nil)))) (pvs_cons (pv_asg (pv_callO (ok_letters_at t) hr (by omega) rfl takes_cx (pav_cons (vr 0) (pav_cons (vr 1) (pav_cons (vr 2) pav_nil)))) (pgv_tup rfl (pgvs_cons (gn_ 5 sc_headed.nd) (pgvs_cons (gn_ 1 sc_headed.nd) pgvs_nil)))) (pvs_one (pv_ret (pv_tup (pav_cons (pv_tup (pav_cons (vr 3) (pav_cons (vr 4) (pav_cons (vr 5) pav_nil)))) (pav_cons (vr 1) pav_nil))))))) pvs_nil) (pvs_cons (pv_asg (pv_callO (ok_letter_at t) hr (by omega) rfl takes_cx (pav_cons (vr 0) (pav_cons (vr 1) (pav_cons (vr 2) pav_nil)))) (pgv_tup rfl (pgvs_cons (gn_ 6 sc_headed.nd) (pgvs_cons (gn_ 1 sc_headed.nd) pgvs_nil)))) (pvs_cons (pv_ifs (t_eq (vr 3) pv_str) (pvs_one (pv_ret (pv_tup (pav_cons (pv_tup (pav_cons (vr 3) (pav_cons (vr 6) pav_nil))) (pav_cons (vr 1) pav_nil))))) pvs_nil) (pvs_cons (pv_asg (pv_callO (ok_letter_at t) hr (by omega) rfl takes_cx (pav_cons (vr 0) (pav_cons (vr 1) (pav_cons (vr 2) pav_nil)))) (pgv_tup rfl (pgvs_cons (gn_ 7 sc_headed.nd) (pgvs_cons (gn_ 1 sc_headed.nd) pgvs_nil)))) (pvs_one (pv_ret (pv_tup (pav_cons (pv_tup (pav_cons (vr 3) (pav_cons (vr 6) (pav_cons (vr 7) pav_nil)))) (pav_cons (vr 1) pav_nil))))))))))), F.bindsN fun _ _ _ _ _ _ us hl => match us, hl with | [_, _, _, _], _ => rfl⟩, F.kp, gl_headed t⟩
theorem sc_may_begin : FnScope ["word", "narrow"] ["word", "narrow"] (defScope (top 20)) := ⟨rfl, rfl, rfl, by decide +kernel, rfl, by decide +kernel, by decide +kernel⟩
theorem ok_may_begin {P : Program} {w : World} {K : PySem.W.Frag} {mg : Str → Option Value} {base : Heap} (t : Told K mg base) : Df P w K mg base 3 "may_begin" ["word", "narrow"] f_may_begin := by
  obtain ⟨fd, F⟩ := t.d.def_ 13 (d := mkD "may_begin" 20) rfl
  exact ⟨⟨fd, fnV F sc_may_begin fun cdv A outer s H E hr => (pvs_one (pv_ret (pv_or (v_inT hr (vr 0) (pv_gT (zs := ["send", "take", "wait", "alike", "unlike"]) rfl (gl_BRANCHES t) (tu_BRANCHES t))) (pv_one (pv_and (pv_not (vr 1)) (pv_one (v_inT hr (vr 0) (pv_tup (pav_cons pv_str (pav_cons pv_str (pav_cons pv_str (pav_cons pv_str pav_nil)))))))))))), F.bindsN fun _ _ _ _ _ _ us hl => match us, hl with | [_, _], _ => rfl⟩, F.kp, gl_may_begin t⟩
theorem sc_listed : FnScope ["words", "at", "line", "frames", "word", "end"] ["words", "at", "line", "frames", "word"] (defScope (top 21)) := ⟨rfl, rfl, rfl, by decide +kernel, rfl, by decide +kernel, by decide +kernel⟩
theorem ok_listed {P : Program} {w : World} {K : PySem.W.Frag} {mg : Str → Option Value} {base : Heap} (t : Told K mg base) : Df P w K mg base 4 "listed" ["words", "at", "line", "frames", "word"] f_listed := by
  obtain ⟨fd, F⟩ := t.d.def_ 14 (d := mkD "listed" 21) rfl
  exact ⟨⟨fd, fnV F sc_listed fun cdv A outer s H E hr => (pvs_cons (st_ 1 sc_listed.nd (r_add (vr 1) pv_int)) (pvs_cons (st_ 5 sc_listed.nd (pv_if (t_eq (vr 4) pv_str) pv_str pv_str)) (pvs_cons (pv_ifs (t_eq (pv_callO (ok_word_at t) hr (by omega) rfl takes_cx (pav_cons (vr 0) (pav_cons (vr 1) (pav_cons (vr 2) pav_nil)))) (vr 5)) (pvs_one (pv_ret (pv_tup (pav_cons (pv_tup (pav_cons (pv_if (t_eq (vr 4) pv_str) pv_str pv_str) (pav_cons (pv_tup pav_nil) pav_nil))) (pav_cons (r_add (vr 1) pv_int) pav_nil))))) pvs_nil) (pvs_cons (pv_expr (m_append (vr 3) (pv_lst (pav_cons (vr 4) (pav_cons (pv_lstM pav_nil) pav_nil))))) (pvs_one (pv_ret (pv_tup (pav_cons pv_non (pav_cons (vr 1) pav_nil))))))))), F.bindsN fun _ _ _ _ _ _ us hl => match us, hl with | [_, _, _, _, _], _ => rfl⟩, F.kp, gl_listed t⟩
theorem sc_closed : FnScope ["words", "at", "line", "frames", "piece", "head", "held", "word"] ["words", "at", "line", "frames", "piece"] (defScope (top 22)) := ⟨rfl, rfl, rfl, by decide +kernel, rfl, by decide +kernel, by decide +kernel⟩
theorem ok_closed {P : Program} {w : World} {K : PySem.W.Frag} {mg : Str → Option Value} {base : Heap} (t : Told K mg base) : Df P w K mg base 4 "closed" ["words", "at", "line", "frames", "piece"] f_closed := by
  obtain ⟨fd, F⟩ := t.d.def_ 15 (d := mkD "closed" 22) rfl
  exact ⟨⟨fd, fnV F sc_closed fun cdv A outer s H E hr => (pvs_cons (pv_while 1000 owns_cx (t_gt (c_len rfl (fr_len t) (vr 3)) pv_int) (pvs_cons (pv_asg (r_ix (vr 3) (pv_neg pv_int)) (pgv_lis rfl (pgvs_cons (gn_ 5 sc_closed.nd) (pgvs_cons (gn_ 6 sc_closed.nd) pgvs_nil)))) (pvs_cons (pv_ifs (t_ninT hr (vr 5) (pv_tup (pav_cons pv_str (pav_cons pv_str pav_nil)))) (pvs_cons (pv_expr (m_pop (vr 3))) (pvs_cons (st_ 4 sc_closed.nd (r_catT (vr 5) (pv_tup (pav_cons (vr 4) pav_nil)))) (pvs_one pv_cont))) pvs_nil) (pvs_cons (pv_expr (m_append (vr 6) (vr 4))) (pvs_cons (st_ 7 sc_closed.nd (pv_callO (ok_word_at t) hr (by omega) rfl takes_cx (pav_cons (vr 0) (pav_cons (vr 1) (pav_cons (vr 2) pav_nil))))) (pvs_cons (pv_ifs (t_eq (vr 7) (pv_if (t_eq (vr 5) pv_str) pv_str pv_str)) (pvs_one (pv_ret (pv_tup (pav_cons pv_non (pav_cons (r_add (vr 1) pv_int) pav_nil))))) pvs_nil) (pvs_cons (pv_ifs (t_ne (vr 7) (pv_if (t_eq (vr 5) pv_str) pv_str pv_str)) (pvs_one (pv_raiseO (er_BadText t) rfl hr (by omega) takes_cx rfl (pav_cons (vr 2) (pav_cons (vr 1) pav_nil)))) pvs_nil) (pvs_cons (pv_expr (m_pop (vr 3))) (pvs_one (pv_par (i := 4) (j := 1) rfl sc_closed.nd rfl rfl (by decide) rfl rfl (pav_cons (pv_tup (pav_cons (pv_if (t_eq (vr 5) pv_str) pv_str pv_str) (pav_cons (c_tuple rfl (fr_tuple t) (vr 6)) pav_nil))) (pav_cons (r_add (vr 1) pv_int) pav_nil)) rfl)))))))))) (pvs_one (pv_ret (pv_tup (pav_cons (vr 4) (pav_cons (vr 1) pav_nil)))))), F.bindsN fun _ _ _ _ _ _ us hl => match us, hl with | [_, _, _, _, _], _ => rfl⟩, F.kp, gl_closed t⟩
theorem sc_is_narrow : FnScope ["frames", "head"] ["frames"] (defScope (top 23)) := ⟨rfl, rfl, rfl, by decide +kernel, rfl, by decide +kernel, by decide +kernel⟩
theorem ok_is_narrow {P : Program} {w : World} {K : PySem.W.Frag} {mg : Str → Option Value} {base : Heap} (t : Told K mg base) : Df P w K mg base 3 "is_narrow" ["frames"] f_is_narrow := by
  obtain ⟨fd, F⟩ := t.d.def_ 16 (d := mkD "is_narrow" 23) rfl
  exact ⟨⟨fd, fnV F sc_is_narrow fun cdv A outer s H E hr => (pvs_cons (pv_ifs (t_eq (c_len rfl (fr_len t) (vr 0)) pv_int) (pvs_one (pv_ret pv_bl)) pvs_nil) (pvs_cons (st_ 1 sc_is_narrow.nd (r_ix (r_ix (vr 0) (pv_neg pv_int)) pv_int)) (pvs_one (pv_ret (pv_or (v_eqD hr (vr 1) pv_str) (pv_one (pv_and (v_ninT hr (vr 1) (pv_tup (pav_cons pv_str (pav_cons pv_str pav_nil)))) (pv_one (v_inT hr (r_ixT (vr 1) pv_int) (pv_tup (pav_cons pv_str (pav_cons pv_str pav_nil)))))))))))), F.bindsN fun _ _ _ _ _ _ us hl => match us, hl with | [_], _ => rfl⟩, F.kp, gl_is_narrow t⟩
theorem sc_piece_from : FnScope ["words", "start", "line", "frames", "at", "piece", "word", "found", "head"] ["words", "start", "line"] (defScope (top 24)) := ⟨rfl, rfl, rfl, by decide +kernel, rfl, by decide +kernel, by decide +kernel⟩
theorem ok_piece_from {P : Program} {w : World} {K : PySem.W.Frag} {mg : Str → Option Value} {base : Heap} (t : Told K mg base) : Df P w K mg base 7 "piece_from" ["words", "start", "line"] f_piece_from := by
  obtain ⟨fd, F⟩ := t.d.def_ 17 (d := mkD "piece_from" 24) rfl
  exact ⟨⟨fd, fnV F sc_piece_from fun cdv A outer s H E hr => (pvs_cons (pv_par3 (i := 3) (j := 4) (l := 5) rfl sc_piece_from.nd rfl rfl rfl (by decide) (by decide) (by decide) rfl rfl rfl (pav_cons (pv_lstM pav_nil) (pav_cons (vr 1) (pav_cons pv_non pav_nil))) rfl) (pvs_cons (pv_while 1000 owns_cx (t_isN (vr 5) pv_non) (pvs_cons (st_ 6 sc_piece_from.nd (pv_callO (ok_word_at t) hr (by omega) rfl takes_cx (pav_cons (vr 0) (pav_cons (vr 4) (pav_cons (vr 2) pav_nil))))) (pvs_cons (pv_ifs (ptv_not (ptv_val (pv_callO (ok_may_begin t) hr (by omega) rfl takes_cx (pav_cons (vr 6) (pav_cons (pv_callO (ok_is_narrow t) hr (by omega) rfl takes_cx (pav_cons (vr 3) pav_nil)) pav_nil))))) (pvs_one (pv_raiseO (er_BadText t) rfl hr (by omega) takes_cx rfl (pav_cons (vr 2) (pav_cons (vr 4) pav_nil)))) pvs_nil) (pvs_cons (pv_ifs (t_inT hr (vr 6) (pv_tup (pav_cons pv_str (pav_cons pv_str pav_nil)))) (pvs_one (pv_asg (pv_callO (ok_listed t) hr (by omega) rfl takes_cx (pav_cons (vr 0) (pav_cons (vr 4) (pav_cons (vr 2) (pav_cons (vr 3) (pav_cons (vr 6) pav_nil)))))) (pgv_tup rfl (pgvs_cons (gn_ 7 sc_piece_from.nd) (pgvs_cons (gn_ 4 sc_piece_from.nd) pgvs_nil))))) (pvs_cons (pv_asg (pv_callO (ok_headed t) hr (by omega) rfl takes_cx (pav_cons (vr 0) (pav_cons (vr 4) (pav_cons (vr 2) (pav_cons (vr 6) pav_nil))))) (pgv_tup rfl (pgvs_cons (gn_ 8 sc_piece_from.nd) (pgvs_cons (gn_ 4 sc_piece_from.nd) pgvs_nil)))) (pvs_cons (st_ 7 sc_piece_from.nd (pv_if (t_eq (vr 6) pv_str) (vr 8) pv_non)) (pvs_one (pv_ifs (t_isN (vr 7) pv_non) (pvs_one (pv_expr (m_append (vr 3) (pv_lst (pav_cons (vr 8) (pav_cons pv_non pav_nil)))))) pvs_nil))))) (pvs_one (pv_ifs (t_notN (vr 7) pv_non) (pvs_one (pv_asg (pv_callO (ok_closed t) hr (by omega) rfl takes_cx (pav_cons (vr 0) (pav_cons (vr 4) (pav_cons (vr 2) (pav_cons (vr 3) (pav_cons (vr 7) pav_nil)))))) (pgv_tup rfl (pgvs_cons (gn_ 5 sc_piece_from.nd) (pgvs_cons (gn_ 4 sc_piece_from.nd) pgvs_nil))))) pvs_nil)))))) (pvs_one (pv_ret (pv_tup (pav_cons (vr 5) (pav_cons (vr 4) pav_nil))))))), F.bindsN fun _ _ _ _ _ _ us hl => match us, hl with | [_, _, _], _ => rfl⟩, F.kp, gl_piece_from t⟩
theorem sc_program_from : FnScope ["words", "start", "line", "at", "found", "params", "body", "main"] ["words", "start", "line"] (defScope (top 25)) := ⟨rfl, rfl, rfl, by decide +kernel, rfl, by decide +kernel, by decide +kernel⟩
theorem ok_program_from {P : Program} {w : World} {K : PySem.W.Frag} {mg : Str → Option Value} {base : Heap} (t : Told K mg base) : Df P w K mg base 8 "program_from" ["words", "start", "line"] f_program_from := by
  obtain ⟨fd, F⟩ := t.d.def_ 18 (d := mkD "program_from" 25) rfl
  exact ⟨⟨fd, fnV F sc_program_from fun cdv A outer s H E hr => (pvs_cons (pv_par (i := 3) (j := 4) rfl sc_program_from.nd rfl rfl (by decide) rfl rfl (pav_cons (vr 1) (pav_cons (pv_lstM pav_nil) pav_nil)) rfl) (pvs_cons (pv_while 1000 owns_cx (t_eq (pv_callO (ok_word_at t) hr (by omega) rfl takes_cx (pav_cons (vr 0) (pav_cons (vr 3) (pav_cons (vr 2) pav_nil)))) pv_str) (pvs_cons (pv_asg (pv_callO (ok_letters_at t) hr (by omega) rfl takes_cx (pav_cons (vr 0) (pav_cons (r_add (vr 3) pv_int) (pav_cons (vr 2) pav_nil)))) (pgv_tup rfl (pgvs_cons (gn_ 5 sc_program_from.nd) (pgvs_cons (gn_ 3 sc_program_from.nd) pgvs_nil)))) (pvs_cons (pv_asg (pv_callO (ok_piece_from t) hr (by omega) rfl takes_cx (pav_cons (vr 0) (pav_cons (vr 3) (pav_cons (vr 2) pav_nil)))) (pgv_tup rfl (pgvs_cons (gn_ 6 sc_program_from.nd) (pgvs_cons (gn_ 3 sc_program_from.nd) pgvs_nil)))) (pvs_cons (st_ 3 sc_program_from.nd (pv_callO (ok_need_word t) hr (by omega) rfl takes_cx (pav_cons (vr 0) (pav_cons (vr 3) (pav_cons (vr 2) (pav_cons pv_str pav_nil)))))) (pvs_one (pv_expr (m_append (vr 4) (pv_tup (pav_cons (vr 5) (pav_cons (vr 6) pav_nil)))))))))) (pvs_cons (pv_asg (pv_callO (ok_piece_from t) hr (by omega) rfl takes_cx (pav_cons (vr 0) (pav_cons (vr 3) (pav_cons (vr 2) pav_nil)))) (pgv_tup rfl (pgvs_cons (gn_ 7 sc_program_from.nd) (pgvs_cons (gn_ 3 sc_program_from.nd) pgvs_nil)))) (pvs_cons (pv_expr (pv_callO (ok_need_end t) hr (by omega) rfl takes_cx (pav_cons (vr 0) (pav_cons (vr 3) (pav_cons (vr 2) pav_nil))))) (pvs_one (pv_ret (pv_tup (pav_cons (c_tuple rfl (fr_tuple t) (vr 4)) (pav_cons (vr 7) pav_nil))))))))), F.bindsN fun _ _ _ _ _ _ us hl => match us, hl with | [_, _, _], _ => rfl⟩, F.kp, gl_program_from t⟩
theorem sc_is_from : FnScope ["value", "least", "most"] ["value", "least", "most"] (defScope (top 28)) := ⟨rfl, rfl, rfl, by decide +kernel, rfl, by decide +kernel, by decide +kernel⟩
theorem ok_is_from {P : Program} {w : World} {K : PySem.W.Frag} {mg : Str → Option Value} {base : Heap} (t : Told K mg base) : Df P w K mg base 3 "is_from" ["value", "least", "most"] f_is_from := by
  obtain ⟨fd, F⟩ := t.d.def_ 19 (d := mkD "is_from" 28) rfl
  exact ⟨⟨fd, fnV F sc_is_from fun cdv A outer s H E hr => (pvs_one (pv_ret (pv_and (c_isi "int" "int" boot_int (by simp) rfl (fr_isinstance t) rfl (fr_int t) (vr 0)) (pv_and (pv_not (c_isi "bool" "bool" boot_bool (by simp) rfl (fr_isinstance t) rfl (fr_bool t) (vr 0))) (pv_one (v_lele (vr 1) (vr 0) (vr 2))))))), F.bindsN fun _ _ _ _ _ _ us hl => match us, hl with | [_, _, _], _ => rfl⟩, F.kp, gl_is_from t⟩
theorem sc_is_name : FnScope ["value"] ["value"] (defScope (top 29)) := ⟨rfl, rfl, rfl, by decide +kernel, rfl, by decide +kernel, by decide +kernel⟩
theorem ok_is_name {P : Program} {w : World} {K : PySem.W.Frag} {mg : Str → Option Value} {base : Heap} (t : Told K mg base) : Df P w K mg base 4 "is_name" ["value"] f_is_name := by
  obtain ⟨fd, F⟩ := t.d.def_ 20 (d := mkD "is_name" 29) rfl
  exact ⟨⟨fd, fnV F sc_is_name fun cdv A outer s H E hr => (pvs_one (pv_ret (pv_callO (ok_is_from t) hr (by omega) rfl takes_cx (pav_cons (vr 0) (pav_cons pv_int (pav_cons (r_sub (pv_gI rfl (in_NAMES t)) pv_int) pav_nil)))))), F.bindsN fun _ _ _ _ _ _ us hl => match us, hl with | [_], _ => rfl⟩, F.kp, gl_is_name t⟩
theorem sc_are_names : FnScope ["value", "most", "item"] ["value", "most"] (defScope (top 30)) := ⟨rfl, rfl, rfl, by decide +kernel, rfl, by decide +kernel, by decide +kernel⟩
theorem ok_are_names {P : Program} {w : World} {K : PySem.W.Frag} {mg : Str → Option Value} {base : Heap} (t : Told K mg base) : Df P w K mg base 5 "are_names" ["value", "most"] f_are_names := by
  obtain ⟨fd, F⟩ := t.d.def_ 21 (d := mkD "are_names" 30) rfl
  exact ⟨⟨fd, fnV F sc_are_names fun cdv A outer s H E hr => (pvs_cons (pv_ifs (ptv_w (pwv_or (ptv_not (ptv_val (c_isi "tuple" "tuple" boot_tuple (by simp) rfl (fr_isinstance t) rfl (fr_tuple t) (vr 0)))) (pwv_or1 (t_gt (c_len rfl (fr_len t) (vr 0)) (vr 1))))) (pvs_one (pv_ret pv_bl)) pvs_nil) (pvs_cons (pv_for owns_cx rfl (piv_tup (vr 0)) (gn_ 2 sc_are_names.nd) (pvs_one (pv_ifs (ptv_not (ptv_val (pv_callO (ok_is_name t) hr (by omega) rfl takes_cx (pav_cons (vr 2) pav_nil)))) (pvs_one (pv_ret pv_bl)) pvs_nil))) (pvs_one (pv_ret pv_bl)))), F.bindsN fun _ _ _ _ _ _ us hl => match us, hl with | [_, _], _ => rfl⟩, F.kp, gl_are_names t⟩
theorem sc_is_branch : FnScope ["piece"] ["piece"] (defScope (top 42)) := ⟨rfl, rfl, rfl, by decide +kernel, rfl, by decide +kernel, by decide +kernel⟩
theorem ok_is_branch {P : Program} {w : World} {K : PySem.W.Frag} {mg : Str → Option Value} {base : Heap} (t : Told K mg base) : Df P w K mg base 3 "is_branch" ["piece"] f_is_branch := by
  obtain ⟨fd, F⟩ := t.d.def_ 22 (d := mkD "is_branch" 42) rfl
  exact ⟨⟨fd, fnV F sc_is_branch fun cdv A outer s H E hr => (pvs_one (pv_ret (pv_or (v_inT hr (r_ixT (vr 0) pv_int) (pv_gT (zs := ["send", "take", "wait", "sends", "takes"]) rfl (gl_PREFIXES t) (tu_PREFIXES t))) (pv_one (v_inT hr (r_ixT (vr 0) pv_int) (pv_gT (zs := ["alike", "unlike"]) rfl (gl_TESTS t) (tu_TESTS t))))))), F.bindsN fun _ _ _ _ _ _ us hl => match us, hl with | [_], _ => rfl⟩, F.kp, gl_is_branch t⟩
theorem sc_has_shape : FnScope ["value", "widths", "rows", "word", "most"] ["value", "widths", "rows"] (defScope (top 44)) := ⟨rfl, rfl, rfl, by decide +kernel, rfl, by decide +kernel, by decide +kernel⟩
theorem ok_has_shape {P : Program} {w : World} {K : PySem.W.Frag} {mg : Str → Option Value} {base : Heap} (t : Told K mg base) : Df P w K mg base 6 "has_shape" ["value", "widths", "rows"] f_has_shape := by
  obtain ⟨fd, F⟩ := t.d.def_ 23 (d := mkD "has_shape" 44) rfl
  exact ⟨⟨fd, fnV F sc_has_shape fun cdv A outer s H E hr => (pvs_cons (pv_ifs (ptv_w (pwv_or (ptv_not (ptv_val (c_isi "tuple" "tuple" boot_tuple (by simp) rfl (fr_isinstance t) rfl (fr_tuple t) (vr 0)))) (pwv_or (t_eq (c_len rfl (fr_len t) (vr 0)) pv_int) (pwv_or1 (ptv_not (ptv_val (c_isi "str" "str" boot_str (by simp) rfl (fr_isinstance t) rfl (fr_str t) (r_ixT (vr 0) pv_int)))))))) (pvs_one (pv_ret pv_bl)) pvs_nil) (pvs_cons (st_ 3 sc_has_shape.nd (r_ixT (vr 0) pv_int)) (pvs_cons (pv_ifs (t_inT hr (vr 3) (pv_tup (pav_cons pv_str (pav_cons pv_str pav_nil)))) (pvs_one (pv_ret (pv_and (vr 2) (pv_one pv_bad)))) pvs_nil) (pvs_cons (pv_ifs (t_inT hr (vr 3) (pv_tup (pav_cons pv_str (pav_cons pv_str (pav_cons pv_str (pav_cons pv_str pav_nil)))))) (pvs_one (pv_ret (pv_and (v_eq (c_len rfl (fr_len t) (vr 0)) pv_int) (pv_and (pv_callO (ok_is_name t) hr (by omega) rfl takes_cx (pav_cons (r_ixT (vr 0) pv_int) pav_nil)) (pv_one (pv_callO (ok_is_name t) hr (by omega) rfl takes_cx (pav_cons (r_ixT (vr 0) pv_int) pav_nil))))))) pvs_nil) (pvs_cons (pv_ifs (t_eq (vr 3) pv_str) (pvs_one (pv_ret (v_eq (c_len rfl (fr_len t) (vr 0)) pv_int))) pvs_nil) (pvs_cons (pv_ifs (t_inT hr (vr 3) (pv_tup (pav_cons pv_str (pav_cons pv_str pav_nil)))) (pvs_cons (st_ 4 sc_has_shape.nd (pv_if (t_eq (vr 3) pv_str) (pv_gI rfl (in_MOST_BRANCHES t)) (pv_gI rfl (in_MOST_BESIDE t)))) (pvs_one (pv_ret (pv_and (v_eq (c_len rfl (fr_len t) (vr 0)) pv_int) (pv_and (c_isi "tuple" "tuple" boot_tuple (by simp) rfl (fr_isinstance t) rfl (fr_tuple t) (r_ixT (vr 0) pv_int)) (pv_one (v_le (c_len rfl (fr_len t) (r_ixT (vr 0) pv_int)) (vr 4)))))))) pvs_nil) (pvs_cons (pv_ifs (t_eq (vr 3) pv_str) (pvs_one (pv_ret (pv_and (v_eq (c_len rfl (fr_len t) (vr 0)) pv_int) (pv_one (pv_callO (ok_is_name t) hr (by omega) rfl takes_cx (pav_cons (r_ixT (vr 0) pv_int) pav_nil)))))) pvs_nil) (pvs_cons (pv_ifs (ptv_w (pwv_or (t_ne (vr 3) pv_str) (pwv_or (t_ne (c_len rfl (fr_len t) (vr 0)) pv_int) (pwv_or1 (ptv_not (ptv_val (pv_callO (ok_is_from t) hr (by omega) rfl takes_cx (pav_cons (r_ixT (vr 0) pv_int) (pav_cons pv_int (pav_cons (r_sub (c_len rfl (fr_len t) (vr 1)) pv_int) pav_nil)))))))))) (pvs_one (pv_ret pv_bl)) pvs_nil) (pvs_one (pv_ret (pv_and (pv_callO (ok_are_names t) hr (by omega) rfl takes_cx (pav_cons (r_ixT (vr 0) pv_int) (pav_cons (pv_gI rfl (in_MOST_PARAMS t)) pav_nil))) (pv_one (v_eq (c_len rfl (fr_len t) (r_ixT (vr 0) pv_int)) (r_ixT (vr 1) (r_ixT (vr 0) pv_int))))))))))))))), F.bindsN fun _ _ _ _ _ _ us hl => match us, hl with | [_, _, _], _ => rfl⟩, F.kp, gl_has_shape t⟩
theorem sc_inside : FnScope ["piece", "word", "index", "part"] ["piece"] (defScope (top 45)) := ⟨rfl, rfl, rfl, by decide +kernel, rfl, by decide +kernel, by decide +kernel⟩
theorem ok_inside {P : Program} {w : World} {K : PySem.W.Frag} {mg : Str → Option Value} {base : Heap} (t : Told K mg base) : Df P w K mg base 3 "inside" ["piece"] f_inside := by
  obtain ⟨fd, F⟩ := t.d.def_ 24 (d := mkD "inside" 45) rfl
  exact ⟨⟨fd, fnV F sc_inside fun cdv A outer s H E hr => (pvs_cons (st_ 1 sc_inside.nd (r_ixT (vr 0) pv_int)) (pvs_cons (pv_ifs (t_inT hr (vr 1) (pv_tup (pav_cons pv_str (pav_cons pv_str pav_nil)))) (pvs_one (pv_ret (pv_lc rfl sc_inside.nd (piv_en rfl (fr_enumerate t) (pav_cons (r_ixT (vr 0) pv_int) pav_nil)) (blk_by (N := ["piece", "word", "index", "part"]) (sc := defScope (top 45)) (own := [("index", 2), ("part", 3)]) (by decide +kernel)) (tgt_pair (i := 2) (j := 3) (by decide)) (fun _ _ _ _ _ => (pg_tup rfl (pgs_cons (pgn_ 2 sc_inside.nd) (pgs_cons (pgn_ 3 sc_inside.nd) pgs_nil)))) (fun _ _ _ _ _ => (pv_tup (pav_cons (pv_tup (pav_cons pv_int (pav_cons (vr 2) pav_nil))) (pav_cons (vr 3) pav_nil))))))) pvs_nil) (pvs_cons (pv_ifs (t_eq (vr 1) pv_str) (pvs_one (pv_ret (pv_lst (pav_cons (pv_tup (pav_cons (pv_tup (pav_cons pv_int pav_nil)) (pav_cons (r_ixT (vr 0) pv_int) pav_nil))) pav_nil)))) pvs_nil) (pvs_cons (pv_ifs (t_eq (vr 1) pv_str) (pvs_one (pv_ret (pv_lst (pav_cons (pv_tup (pav_cons (pv_tup (pav_cons pv_int pav_nil)) (pav_cons (r_ixT (vr 0) pv_int) pav_nil))) pav_nil)))) pvs_nil) (pvs_one (pv_ret (pv_if (t_inT hr (vr 1) (pv_gT (zs := ["send", "take", "alike", "unlike", "sends", "takes"]) rfl (gl_FOURS t) (tu_FOURS t))) (pv_lst (pav_cons (pv_tup (pav_cons (pv_tup (pav_cons pv_int pav_nil)) (pav_cons (r_ixT (vr 0) pv_int) pav_nil))) pav_nil)) (pv_lst pav_nil)))))))), F.bindsN fun _ _ _ _ _ _ us hl => match us, hl with | [_], _ => rfl⟩, F.kp, gl_inside t⟩
theorem sc_fits : FnScope ["value", "rules"] ["value", "rules"] (defScope (top 46)) := ⟨rfl, rfl, rfl, by decide +kernel, rfl, by decide +kernel, by decide +kernel⟩
theorem ok_fits {P : Program} {w : World} {K : PySem.W.Frag} {mg : Str → Option Value} {base : Heap} (t : Told K mg base) : Df P w K mg base 7 "fits" ["value", "rules"] f_fits := by
  obtain ⟨fd, F⟩ := t.d.def_ 25 (d := mkD "fits" 46) rfl
  exact ⟨⟨fd, fnV F sc_fits fun cdv A outer s H E hr => (pvs_cons (pv_ifs (t_eqD hr (vr 0) (pv_tup (pav_cons pv_str pav_nil))) (pvs_one (pv_ret (pv_and (r_dget hr (vr 1) pv_str) (pv_one (pv_not (r_dget hr (vr 1) pv_str)))))) pvs_nil) (pvs_cons (pv_ifs (ptv_not (ptv_val (pv_callO (ok_has_shape t) hr (by omega) rfl takes_cx (pav_cons (vr 0) (pav_cons (r_dget hr (vr 1) pv_str) (pav_cons (r_dget hr (vr 1) pv_str) pav_nil)))))) (pvs_one (pv_ret pv_bl)) pvs_nil) (pvs_cons (pv_ifs (ptv_w (pwv_and (ptv_val (r_dget hr (vr 1) pv_str)) (pwv_and1 (ptv_not (ptv_val (pv_callO (ok_is_branch t) hr (by omega) rfl takes_cx (pav_cons (vr 0) pav_nil))))))) (pvs_one (pv_ret pv_bl)) pvs_nil) (pvs_cons (pv_ifs (ptv_w (pwv_and (ptv_val (r_dget hr (vr 1) pv_str)) (pwv_and1 (ptv_w (pwv_or (t_eq (r_ixT (vr 0) pv_int) pv_str) (pwv_or1 (ptv_w (pwv_and (t_eq (r_ixT (vr 0) pv_int) pv_str) (pwv_and1 (ptv_not (ptv_val (r_dget hr (vr 1) pv_str)))))))))))) (pvs_one (pv_ret pv_bl)) pvs_nil) (pvs_one (pv_ret pv_bl)))))), F.bindsN fun _ _ _ _ _ _ us hl => match us, hl with | [_, _], _ => rfl⟩, F.kp, gl_fits t⟩
theorem sc_checked : FnScope ["value", "path", "deep", "met", "rules", "within", "number", "rest", "part"] ["value", "path", "deep", "met", "rules"] (defScope (top 47)) := ⟨rfl, rfl, rfl, by decide +kernel, rfl, by decide +kernel, by decide +kernel⟩
theorem all_checked {P : Program} {w : World} {K : PySem.W.Frag} {mg : Str → Option Value} {base : Heap} (t : Told K mg base) : ∀ n : Nat, Df P w K mg base (8 + n) "checked" ["value", "path", "deep", "met", "rules"] (f_checked n)
  | 0 => df_zero (by exact (t.d.def_ 26 (d := mkD "checked" 47) rfl)) sc_checked (fun _ _ _ _ _ _ us hl => match us, hl with | [_, _, _, _, _], _ => rfl) (gl_checked t)
  | n + 1 => by
    have ih_checked := all_checked (P := P) (w := w) t n
    obtain ⟨fd, F⟩ := t.d.def_ 26 (d := mkD "checked" 47) rfl
    exact ⟨⟨fd, fnV (k := 8 + n) F sc_checked fun cdv A outer s H E hr => (pvs_cons (pv_ifs (t_gt (vr 2) (pv_gI rfl (in_MOST_DEEP t))) (pvs_one (pv_raiseO (er_TooGreat t) rfl hr (by omega) takes_cx rfl (pav_cons (pv_gI rfl (in_MOST_DEEP t)) pav_nil))) pvs_nil) (pvs_cons (pv_ifs (t_eq (vr 3) (pv_gI rfl (in_MOST_PARTS t))) (pvs_one (pv_raiseO (er_TooGreat t) rfl hr (by omega) takes_cx rfl (pav_cons (pv_gI rfl (in_MOST_PARTS t)) pav_nil))) pvs_nil) (pvs_cons (pv_ifs (ptv_not (ptv_val (pv_callO (ok_fits t) hr (by omega) rfl takes_cx (pav_cons (vr 0) (pav_cons (vr 4) pav_nil))))) (pvs_one (pv_raiseO (er_BadPiece t) rfl hr (by omega) takes_cx rfl (pav_cons (vr 1) pav_nil))) pvs_nil) (pvs_cons (st_ 5 sc_checked.nd (c_dict rfl (fr_dict t) (vr 4))) (pvs_cons (pv_dput (room1 hr) (vr 5) pv_str (pv_or (v_inT hr (r_ixT (vr 0) pv_int) (pv_gT (zs := ["alike", "unlike"]) rfl (gl_TESTS t) (tu_TESTS t))) (pv_one (v_eq (r_ixT (vr 0) pv_int) pv_str)))) (pvs_cons (pv_dput (room1 hr) (vr 5) pv_str (pv_or (r_dget hr (vr 4) pv_str) (pv_one (v_inT hr (r_ixT (vr 0) pv_int) (pv_gT (zs := ["send", "take", "wait", "sends", "takes"]) rfl (gl_PREFIXES t) (tu_PREFIXES t)))))) (pvs_cons (st_ 6 sc_checked.nd (r_add (vr 3) pv_int)) (pvs_cons (pv_for owns_cx rfl (piv_list (pv_callO (ok_inside t) hr (by omega) rfl takes_cx (pav_cons (vr 0) pav_nil))) (pgv_tup rfl (pgvs_cons (gn_ 7 sc_checked.nd) (pgvs_cons (gn_ 8 sc_checked.nd) pgvs_nil))) (pvs_one (st_ 6 sc_checked.nd (pv_callO ih_checked hr (by omega) rfl takes_cx (pav_cons (vr 8) (pav_cons (r_catT (vr 1) (vr 7)) (pav_cons (r_add (vr 2) pv_int) (pav_cons (vr 6) (pav_cons (vr 5) pav_nil))))))))) (pvs_one (pv_ret (vr 6))))))))))), F.bindsN fun _ _ _ _ _ _ us hl => match us, hl with | [_, _, _, _, _], _ => rfl⟩, F.kp, gl_checked t⟩
theorem ok_checked {P : Program} {w : World} {K : PySem.W.Frag} {mg : Str → Option Value} {base : Heap} (t : Told K mg base) (n : Nat) : Df P w K mg base (8 + n) "checked" ["value", "path", "deep", "met", "rules"] (f_checked n) := (all_checked t n)
theorem sc_is_head : FnScope ["value"] ["value"] (defScope (top 48)) := ⟨rfl, rfl, rfl, by decide +kernel, rfl, by decide +kernel, by decide +kernel⟩
theorem ok_is_head {P : Program} {w : World} {K : PySem.W.Frag} {mg : Str → Option Value} {base : Heap} (t : Told K mg base) : Df P w K mg base 6 "is_head" ["value"] f_is_head := by
  obtain ⟨fd, F⟩ := t.d.def_ 27 (d := mkD "is_head" 48) rfl
  exact ⟨⟨fd, fnV F sc_is_head fun cdv A outer s H E hr => (pvs_cons (pv_ifs (ptv_w (pwv_or (ptv_not (ptv_val (c_isi "tuple" "tuple" boot_tuple (by simp) rfl (fr_isinstance t) rfl (fr_tuple t) (vr 0)))) (pwv_or (t_ne (c_len rfl (fr_len t) (vr 0)) pv_int) (pwv_or1 (ptv_not (ptv_val (pv_callO (ok_are_names t) hr (by omega) rfl takes_cx (pav_cons (r_ixT (vr 0) pv_int) (pav_cons (pv_gI rfl (in_MOST_PARAMS t)) pav_nil))))))))) (pvs_one (pv_ret pv_bl)) pvs_nil) (pvs_one (pv_ret (v_eq (pv_lenSet rfl rfl (fr_len t) rfl (fr_set t) (c_list rfl (fr_list t) (r_ixT (vr 0) pv_int))) (c_len rfl (fr_len t) (r_ixT (vr 0) pv_int)))))), F.bindsN fun _ _ _ _ _ _ us hl => match us, hl with | [_], _ => rfl⟩, F.kp, gl_is_head t⟩
theorem sc_free_in : FnScope ["piece", "word", "found", "rest", "part", "bound", "name"] ["piece"] (defScope (top 51)) := ⟨rfl, rfl, rfl, by decide +kernel, rfl, by decide +kernel, by decide +kernel⟩
theorem all_free_in {P : Program} {w : World} {K : PySem.W.Frag} {mg : Str → Option Value} {base : Heap} (t : Told K mg base) : ∀ n : Nat, Df P w K mg base (4 + n) "free_in" ["piece"] (f_free_in n)
  | 0 => df_zero (by exact (t.d.def_ 30 (d := mkD "free_in" 51) rfl)) sc_free_in (fun _ _ _ _ _ _ us hl => match us, hl with | [_], _ => rfl) (gl_free_in t)
  | n + 1 => by
    have ih_free_in := all_free_in (P := P) (w := w) t n
    obtain ⟨fd, F⟩ := t.d.def_ 30 (d := mkD "free_in" 51) rfl
    exact ⟨⟨fd, fnV (k := 4 + n) F sc_free_in fun cdv A outer s H E hr => (pvs_cons (st_ 1 sc_free_in.nd (r_ixT (vr 0) pv_int)) (pvs_cons (pv_ifs (t_eq (vr 1) pv_str) (pvs_one (pv_ret (c_tuple rfl (fr_tuple t) (pv_sortSet rfl rfl (fr_sorted t) rfl (fr_set t) (c_list rfl (fr_list t) (r_ixT (vr 0) pv_int)))))) pvs_nil) (pvs_cons (st_ 2 sc_free_in.nd (pv_lst pav_nil)) (pvs_cons (pv_for owns_cx rfl (piv_list (pv_callO (ok_inside t) hr (by omega) rfl takes_cx (pav_cons (vr 0) pav_nil))) (pgv_tup rfl (pgvs_cons (gn_ 3 sc_free_in.nd) (pgvs_cons (gn_ 4 sc_free_in.nd) pgvs_nil))) (pvs_one (st_ 2 sc_free_in.nd (r_cat (vr 2) (c_list rfl (fr_list t) (pv_callO ih_free_in hr (by omega) rfl takes_cx (pav_cons (vr 4) pav_nil))))))) (pvs_cons (pv_ifs (t_eq (vr 1) pv_str) (pvs_one (pv_setLcIf rfl sc_free_in.nd rfl rfl rfl (piv_list (vr 2)) (blk_by (N := ["piece", "word", "found", "rest", "part", "bound", "name"]) (sc := defScope (top 51)) (own := [("name", 6)]) (by decide +kernel)) (tgt_name 6) (fun _ _ _ _ _ => (pgn_ 6 sc_free_in.nd)) (fun _ _ _ _ _ => (t_neD hr (vr 6) (r_ixT (vr 0) pv_int))) (fun _ _ _ _ _ => (vr 6)))) (pvs_one (pv_ifs (t_inT hr (vr 1) (pv_tup (pav_cons pv_str (pav_cons pv_str pav_nil)))) (pvs_cons (st_ 5 sc_free_in.nd (pv_if (t_eq (vr 1) pv_str) (pv_tup (pav_cons (r_ixT (vr 0) pv_int) pav_nil)) (r_ixT (vr 0) pv_int))) (pvs_one (st_ 2 sc_free_in.nd (r_cat (pv_lst (pav_cons (r_ixT (vr 0) pv_int) pav_nil)) (pv_lcIf rfl sc_free_in.nd (piv_list (vr 2)) (blk_by (N := ["piece", "word", "found", "rest", "part", "bound", "name"]) (sc := defScope (top 51)) (own := [("name", 6)]) (by decide +kernel)) (tgt_name 6) (fun _ _ _ _ _ => (pgn_ 6 sc_free_in.nd)) (fun _ _ _ _ _ => (t_ninT hr (vr 6) (vr 5))) (fun _ _ _ _ _ => (vr 6))))))) (pvs_one (pv_ifs (t_eq (vr 1) pv_str) (pvs_one (st_ 2 sc_free_in.nd (r_cat (r_cat (pv_lst (pav_cons (r_ixT (vr 0) pv_int) pav_nil)) (c_list rfl (fr_list t) (r_ixT (vr 0) pv_int))) (vr 2)))) (pvs_one (pv_ifs (t_inT hr (vr 1) (pv_tup (pav_cons pv_str (pav_cons pv_str (pav_cons pv_str pav_nil))))) (pvs_one (st_ 2 sc_free_in.nd (r_cat (pv_lst (pav_cons (r_ixT (vr 0) pv_int) (pav_cons (r_ixT (vr 0) pv_int) pav_nil))) (vr 2)))) pvs_nil))))))) (pvs_one (pv_ret (c_tuple rfl (fr_tuple t) (pv_sortSet rfl rfl (fr_sorted t) rfl (fr_set t) (vr 2)))))))))), F.bindsN fun _ _ _ _ _ _ us hl => match us, hl with | [_], _ => rfl⟩, F.kp, gl_free_in t⟩
theorem ok_free_in {P : Program} {w : World} {K : PySem.W.Frag} {mg : Str → Option Value} {base : Heap} (t : Told K mg base) (n : Nat) : Df P w K mg base (4 + n) "free_in" ["piece"] (f_free_in n) := (all_free_in t n)
theorem sc_gone_through : FnScope ["value", "hole", "rows", "number", "definition", "widths", "rules", "met", "name", "params", "body"] ["value", "hole", "rows"] (defScope (top 49)) := ⟨rfl, rfl, rfl, by decide +kernel, rfl, by decide +kernel, by decide +kernel⟩
theorem bd_gone_through {K : PySem.W.Frag} {f : Addr} {fd : FuncData} (F : FunD K "gone_through" "gone_through" (defArgs (top 49)) (defBody (top 49)) (defScope (top 49)) [V.bl false] [] f fd) : ∃ ds, Vals ([false].map V.bl) ds ∧ Binds K fd ["value", "hole", "rows"] ds :=
  F.binds1 (ps := ["value", "hole", "rows"]) 2 0 (by simp) rfl fun T kV doc pm an cdv ct us its h1 h2 => match us, its, h1, h2 with | [_, _], [_], _, _ => ⟨_, rfl, rfl⟩
theorem okd_gone_through {P : Program} {w : World} {K : PySem.W.Frag} {mg : Str → Option Value} {base : Heap} (t : Told K mg base) : ∃ fd ds, FnOk P w K mg base (L2.CX P w) 29 (ga K "gone_through") fd ["value", "hole", "rows"] (spV K (ga K) 3 f_gone_through) ∧ Vals ([false].map V.bl) ds ∧ Binds K fd ["value", "hole", "rows"] ds ∧ PySem.W.keepIn K (.ref (ga K "gone_through")) = true := by
  obtain ⟨fd, F⟩ := t.d.def_ 28 (d := ⟨("gone_through", none), "gone_through", "gone_through", defArgs (top 49), defBody (top 49), defScope (top 49), [.bl false], []⟩) rfl
  obtain ⟨ds, h1, h2⟩ := bd_gone_through F
  exact ⟨fd, ds, fnVd F sc_gone_through fun cdv A outer s H E hr => (pvs_cons (pv_ifs (ptv_w (pwv_or (ptv_not (ptv_val (c_isi "tuple" "tuple" boot_tuple (by simp) rfl (fr_isinstance t) rfl (fr_tuple t) (vr 0)))) (pwv_or1 (t_ne (c_len rfl (fr_len t) (vr 0)) pv_int)))) (pvs_one (pv_raiseO (er_BadProgram t) rfl hr (by omega) takes_cx rfl (pav_cons (pv_tup pav_nil) pav_nil))) pvs_nil) (pvs_cons (pv_ifs (ptv_w (pwv_or (ptv_not (ptv_val (c_isi "tuple" "tuple" boot_tuple (by simp) rfl (fr_isinstance t) rfl (fr_tuple t) (r_ixT (vr 0) pv_int)))) (pwv_or1 (t_gt (c_len rfl (fr_len t) (r_ixT (vr 0) pv_int)) (pv_gI rfl (in_MOST_DEFINITIONS t)))))) (pvs_one (pv_raiseO (er_BadProgram t) rfl hr (by omega) takes_cx rfl (pav_cons (pv_tup (pav_cons pv_int pav_nil)) pav_nil))) pvs_nil) (pvs_cons (pv_for owns_cx rfl (piv_en rfl (fr_enumerate t) (pav_cons (r_ixT (vr 0) pv_int) pav_nil)) (pgv_tup rfl (pgvs_cons (gn_ 3 sc_gone_through.nd) (pgvs_cons (gn_ 4 sc_gone_through.nd) pgvs_nil))) (pvs_one (pv_ifs (ptv_not (ptv_val (pv_callO (ok_is_head t) hr (by omega) rfl takes_cx (pav_cons (vr 4) pav_nil)))) (pvs_one (pv_raiseO (er_BadProgram t) rfl hr (by omega) takes_cx rfl (pav_cons (pv_tup (pav_cons pv_int (pav_cons (vr 3) pav_nil))) pav_nil))) pvs_nil))) (pvs_cons (st_ 5 sc_gone_through.nd (c_tuple rfl (fr_tuple t) (pv_lc rfl sc_gone_through.nd (piv_tup (r_ixT (vr 0) pv_int)) (blk_by (N := ["value", "hole", "rows", "number", "definition", "widths", "rules", "met", "name", "params", "body"]) (sc := defScope (top 49)) (own := [("params", 9), ("body", 10)]) (by decide +kernel)) (tgt_pair (i := 9) (j := 10) (by decide)) (fun _ _ _ _ _ => (pg_tup rfl (pgs_cons (pgn_ 9 sc_gone_through.nd) (pgs_cons (pgn_ 10 sc_gone_through.nd) pgs_nil)))) (fun _ _ _ _ _ => (c_len rfl (fr_len t) (vr 9)))))) (pvs_cons (st_ 6 sc_gone_through.nd (pv_disp (ppv_cons (vr 5) (ppv_cons pv_bl (ppv_cons pv_bl (ppv_cons pv_bl (ppv_cons pv_bl (ppv_cons (vr 2) ppv_nil)))))))) (pvs_cons (st_ 7 sc_gone_through.nd pv_int) (pvs_cons (pv_for owns_cx rfl (piv_en rfl (fr_enumerate t) (pav_cons (r_ixT (vr 0) pv_int) pav_nil)) (pgv_tup rfl (pgvs_cons (gn_ 3 sc_gone_through.nd) (pgvs_cons (gn_ 4 sc_gone_through.nd) pgvs_nil))) (pvs_one (st_ 7 sc_gone_through.nd (pv_callO (ok_checked t 20) hr (by omega) rfl takes_cx (pav_cons (r_ixT (vr 4) pv_int) (pav_cons (pv_tup (pav_cons pv_int (pav_cons (vr 3) (pav_cons pv_int pav_nil)))) (pav_cons pv_int (pav_cons (vr 7) (pav_cons (vr 6) pav_nil))))))))) (pvs_cons (pv_dput (room1 hr) (vr 6) pv_str pv_bl) (pvs_cons (pv_dput (room1 hr) (vr 6) pv_str (vr 1)) (pvs_cons (st_ 7 sc_gone_through.nd (pv_callO (ok_checked t 20) hr (by omega) rfl takes_cx (pav_cons (r_ixT (vr 0) pv_int) (pav_cons (pv_tup (pav_cons pv_int pav_nil)) (pav_cons pv_int (pav_cons (vr 7) (pav_cons (vr 6) pav_nil))))))) (pvs_cons (pv_for owns_cx rfl (piv_en rfl (fr_enumerate t) (pav_cons (r_ixT (vr 0) pv_int) pav_nil)) (pgv_tup rfl (pgvs_cons (gn_ 3 sc_gone_through.nd) (pgvs_cons (gn_ 4 sc_gone_through.nd) pgvs_nil))) (pvs_one (pv_for owns_cx rfl (piv_tup (pv_callO (ok_free_in t 20) hr (by omega) rfl takes_cx (pav_cons (r_ixT (vr 4) pv_int) pav_nil))) (gn_ 8 sc_gone_through.nd) (pvs_one (pv_ifs (t_ninT hr (vr 8) (r_ixT (vr 4) pv_int)) (pvs_one (pv_raiseO (er_BadProgram t) rfl hr (by omega) takes_cx rfl (pav_cons (pv_tup (pav_cons pv_int (pav_cons (vr 3) pav_nil))) pav_nil))) pvs_nil))))) (pvs_one (pv_ret (vr 7)))))))))))))), h1, h2, F.kp⟩
theorem calld_gone_through {X : Cx} {Wx : WX} {p pos : Pos} {e e2 : Expr} {fes : EvA} {j : Nat} (t : Told X.K X.mg X.base) (hr : Room j X.A) (hk : 29 ≤ j) (tk : Takes X Wx) (ha : PAV X (ga X.K) Wx [e, e2] fes) (hg : Gl X "gone_through" := by rfl) (he : starEach [e, e2] X.env = (false, eval e X.env) :: starEach [e2] X.env := by rfl) (hpl : (backTo pos (starEach [e2] X.env)).any (·.1) = false := by rfl) : PV X (ga X.K) Wx (.Call (.Name "gone_through" p) [e, e2] [] pos) (eCallD 3 f_gone_through [.bl false] fes) := by
  obtain ⟨fd, ds, h1, h2, h3, h4⟩ := okd_gone_through (P := X.prog) (w := X.w) t
  exact pv_callD (bs := [false]) h1 h3 h2 h4 (gl_gone_through t) hr hk hg tk ha (by decide) he hpl
theorem sc_need_program : FnScope ["value"] ["value"] (defScope (top 50)) := ⟨rfl, rfl, rfl, by decide +kernel, rfl, by decide +kernel, by decide +kernel⟩
theorem ok_need_program {P : Program} {w : World} {K : PySem.W.Frag} {mg : Str → Option Value} {base : Heap} (t : Told K mg base) : Df P w K mg base 30 "need_program" ["value"] f_need_program := by
  obtain ⟨fd, F⟩ := t.d.def_ 29 (d := mkD "need_program" 50) rfl
  exact ⟨⟨fd, fnV F sc_need_program fun cdv A outer s H E hr => (pvs_cons (pv_expr (calld_gone_through t hr (by omega) takes_cx (pav_cons (vr 0) (pav_cons pv_bl pav_nil)))) (pvs_one (pv_ret (vr 0)))), F.bindsN fun _ _ _ _ _ _ us hl => match us, hl with | [_], _ => rfl⟩, F.kp, gl_need_program t⟩
theorem sc_letters_of : FnScope ["names", "name"] ["names"] (defScope (top 53)) := ⟨rfl, rfl, rfl, by decide +kernel, rfl, by decide +kernel, by decide +kernel⟩
theorem ok_letters_of {P : Program} {w : World} {K : PySem.W.Frag} {mg : Str → Option Value} {base : Heap} (t : Told K mg base) : Df P w K mg base 3 "letters_of" ["names"] f_letters_of := by
  obtain ⟨fd, F⟩ := t.d.def_ 31 (d := mkD "letters_of" 53) rfl
  exact ⟨⟨fd, fnV F sc_letters_of fun cdv A outer s H E hr => (pvs_one (pv_ret (r_cat (r_cat (pv_lst (pav_cons pv_str pav_nil)) (pv_lc rfl sc_letters_of.nd (piv_tup (vr 0)) (blk_by (N := ["names", "name"]) (sc := defScope (top 53)) (own := [("name", 1)]) (by decide +kernel)) (tgt_name 1) (fun _ _ _ _ _ => (pgn_ 1 sc_letters_of.nd)) (fun _ _ _ _ _ => (r_ixS (pv_gS rfl (sr_LETTERS t)) (vr 1))))) (pv_lst (pav_cons pv_str pav_nil))))), F.bindsN fun _ _ _ _ _ _ us hl => match us, hl with | [_], _ => rfl⟩, F.kp, gl_letters_of t⟩
theorem sc_piece_words : FnScope ["piece", "word", "found", "place", "part", "between"] ["piece"] (defScope (top 54)) := ⟨rfl, rfl, rfl, by decide +kernel, rfl, by decide +kernel, by decide +kernel⟩
theorem all_piece_words {P : Program} {w : World} {K : PySem.W.Frag} {mg : Str → Option Value} {base : Heap} (t : Told K mg base) : ∀ n : Nat, Df P w K mg base (4 + n) "piece_words" ["piece"] (f_piece_words n)
  | 0 => df_zero (by exact (t.d.def_ 32 (d := mkD "piece_words" 54) rfl)) sc_piece_words (fun _ _ _ _ _ _ us hl => match us, hl with | [_], _ => rfl) (gl_piece_words t)
  | n + 1 => by
    have ih_piece_words := all_piece_words (P := P) (w := w) t n
    obtain ⟨fd, F⟩ := t.d.def_ 32 (d := mkD "piece_words" 54) rfl
    exact ⟨⟨fd, fnV (k := 4 + n) F sc_piece_words fun cdv A outer s H E hr => (pvs_cons (st_ 1 sc_piece_words.nd (r_ixT (vr 0) pv_int)) (pvs_cons (pv_ifs (t_inT hr (vr 1) (pv_tup (pav_cons pv_str (pav_cons pv_str pav_nil)))) (pvs_cons (st_ 2 sc_piece_words.nd (pv_lst (pav_cons (pv_if (t_eq (vr 1) pv_str) pv_str pv_str) pav_nil))) (pvs_cons (pv_for owns_cx rfl (piv_en rfl (fr_enumerate t) (pav_cons (r_ixT (vr 0) pv_int) pav_nil)) (pgv_tup rfl (pgvs_cons (gn_ 3 sc_piece_words.nd) (pgvs_cons (gn_ 4 sc_piece_words.nd) pgvs_nil))) (pvs_cons (st_ 5 sc_piece_words.nd (pv_if (t_gt (vr 3) pv_int) (pv_lst (pav_cons (pv_if (t_eq (vr 1) pv_str) pv_str pv_str) pav_nil)) (pv_lst pav_nil))) (pvs_one (st_ 2 sc_piece_words.nd (r_cat (r_cat (vr 2) (vr 5)) (pv_callO ih_piece_words hr (by omega) rfl takes_cx (pav_cons (vr 4) pav_nil))))))) (pvs_one (pv_ret (r_cat (vr 2) (pv_lst (pav_cons (pv_if (t_eq (vr 1) pv_str) pv_str pv_str) pav_nil))))))) pvs_nil) (pvs_cons (pv_ifs (t_eq (vr 1) pv_str) (pvs_one (pv_ret (r_cat (pv_lst (pav_cons (vr 1) pav_nil)) (pv_callO ih_piece_words hr (by omega) rfl takes_cx (pav_cons (r_ixT (vr 0) pv_int) pav_nil))))) pvs_nil) (pvs_cons (pv_ifs (t_eq (vr 1) pv_str) (pvs_one (pv_ret (r_cat (pv_lst (pav_cons (vr 1) (pav_cons (r_ixS (pv_gS rfl (sr_LETTERS t)) (r_ixT (vr 0) pv_int)) pav_nil))) (pv_callO ih_piece_words hr (by omega) rfl takes_cx (pav_cons (r_ixT (vr 0) pv_int) pav_nil))))) pvs_nil) (pvs_cons (pv_ifs (t_eq (vr 1) pv_str) (pvs_one (pv_ret (r_cat (pv_lst (pav_cons (vr 1) (pav_cons (c_str rfl (fr_str t) (r_ixT (vr 0) pv_int)) pav_nil))) (pv_callO (ok_letters_of t) hr (by omega) rfl takes_cx (pav_cons (r_ixT (vr 0) pv_int) pav_nil))))) pvs_nil) (pvs_one (pv_ret (r_cat (pv_lst (pav_cons (vr 1) (pav_cons (r_ixS (pv_gS rfl (sr_LETTERS t)) (r_ixT (vr 0) pv_int)) (pav_cons (r_ixS (pv_gS rfl (sr_LETTERS t)) (r_ixT (vr 0) pv_int)) pav_nil)))) (pv_callO ih_piece_words hr (by omega) rfl takes_cx (pav_cons (r_ixT (vr 0) pv_int) pav_nil)))))))))), F.bindsN fun _ _ _ _ _ _ us hl => match us, hl with | [_], _ => rfl⟩, F.kp, gl_piece_words t⟩
theorem ok_piece_words {P : Program} {w : World} {K : PySem.W.Frag} {mg : Str → Option Value} {base : Heap} (t : Told K mg base) (n : Nat) : Df P w K mg base (4 + n) "piece_words" ["piece"] (f_piece_words n) := (all_piece_words t n)
theorem sc_program_words : FnScope ["program", "found", "params", "body"] ["program"] (defScope (top 55)) := ⟨rfl, rfl, rfl, by decide +kernel, rfl, by decide +kernel, by decide +kernel⟩
theorem ok_program_words {P : Program} {w : World} {K : PySem.W.Frag} {mg : Str → Option Value} {base : Heap} (t : Told K mg base) : Df P w K mg base 25 "program_words" ["program"] f_program_words := by
  obtain ⟨fd, F⟩ := t.d.def_ 33 (d := mkD "program_words" 55) rfl
  exact ⟨⟨fd, fnV F sc_program_words fun cdv A outer s H E hr => (pvs_cons (st_ 1 sc_program_words.nd (pv_lst pav_nil)) (pvs_cons (pv_for owns_cx rfl (piv_tup (r_ixT (vr 0) pv_int)) (pgv_tup rfl (pgvs_cons (gn_ 2 sc_program_words.nd) (pgvs_cons (gn_ 3 sc_program_words.nd) pgvs_nil))) (pvs_one (st_ 1 sc_program_words.nd (r_cat (r_cat (r_cat (r_cat (vr 1) (pv_lst (pav_cons pv_str pav_nil))) (pv_callO (ok_letters_of t) hr (by omega) rfl takes_cx (pav_cons (vr 2) pav_nil))) (pv_callO (ok_piece_words t 20) hr (by omega) rfl takes_cx (pav_cons (vr 3) pav_nil))) (pv_lst (pav_cons pv_str pav_nil)))))) (pvs_one (pv_ret (r_cat (vr 1) (pv_callO (ok_piece_words t 20) hr (by omega) rfl takes_cx (pav_cons (r_ixT (vr 0) pv_int) pav_nil))))))), F.bindsN fun _ _ _ _ _ _ us hl => match us, hl with | [_], _ => rfl⟩, F.kp, gl_program_words t⟩
theorem sc_program_text : FnScope ["program"] ["program"] (defScope (top 56)) := ⟨rfl, rfl, rfl, by decide +kernel, rfl, by decide +kernel, by decide +kernel⟩
theorem ok_program_text {P : Program} {w : World} {K : PySem.W.Frag} {mg : Str → Option Value} {base : Heap} (t : Told K mg base) : Df P w K mg base 31 "program_text" ["program"] f_program_text := by
  obtain ⟨fd, F⟩ := t.d.def_ 34 (d := mkD "program_text" 56) rfl
  exact ⟨⟨fd, fnV F sc_program_text fun cdv A outer s H E hr => (pvs_cons (pv_expr (pv_callO (ok_need_program t) hr (by omega) rfl takes_cx (pav_cons (vr 0) pav_nil))) (pvs_one (pv_ret (m_join pv_str (pv_callO (ok_program_words t) hr (by omega) rfl takes_cx (pav_cons (vr 0) pav_nil)))))), F.bindsN fun _ _ _ _ _ _ us hl => match us, hl with | [_], _ => rfl⟩, F.kp, gl_program_text t⟩
theorem sc_read_program : FnScope ["text"] ["text"] (defScope (top 57)) := ⟨rfl, rfl, rfl, by decide +kernel, rfl, by decide +kernel, by decide +kernel⟩
theorem ok_read_program {P : Program} {w : World} {K : PySem.W.Frag} {mg : Str → Option Value} {base : Heap} (t : Told K mg base) : Df P w K mg base 31 "read_program" ["text"] f_read_program := by
  obtain ⟨fd, F⟩ := t.d.def_ 35 (d := mkD "read_program" 57) rfl
  exact ⟨⟨fd, fnV F sc_read_program fun cdv A outer s H E hr => (pvs_cons (pv_ifs (ptv_not (ptv_val (c_isi "str" "str" boot_str (by simp) rfl (fr_isinstance t) rfl (fr_str t) (vr 0)))) (pvs_one (pv_raiseO (er_BadText t) rfl hr (by omega) takes_cx rfl (pav_cons pv_int (pav_cons pv_int pav_nil)))) pvs_nil) (pvs_one (pv_ret (pv_callO (ok_need_program t) hr (by omega) rfl takes_cx (pav_cons (pv_callO (ok_program_from t) hr (by omega) rfl takes_cx (pav_cons (pv_callO (ok_words_of t) hr (by omega) rfl takes_cx (pav_cons (vr 0) pav_nil)) (pav_cons pv_int (pav_cons pv_int pav_nil)))) pav_nil))))), F.bindsN fun _ _ _ _ _ _ us hl => match us, hl with | [_], _ => rfl⟩, F.kp, gl_read_program t⟩
theorem sc__law_mixed : FnScope ["_law_cell", "_law_k"] ["_law_cell", "_law_k"] (defScope (top 59)) := ⟨rfl, rfl, rfl, by decide +kernel, rfl, by decide +kernel, by decide +kernel⟩
theorem ok__law_mixed {P : Program} {w : World} {K : PySem.W.Frag} {mg : Str → Option Value} {base : Heap} (t : Told K mg base) : Df P w K mg base 3 "_law_mixed" ["_law_cell", "_law_k"] f__law_mixed := by
  obtain ⟨fd, F⟩ := t.d.def_ 36 (d := mkD "_law_mixed" 59) rfl
  exact ⟨⟨fd, fnV F sc__law_mixed fun cdv A outer s H E hr => (pvs_cons (st_ 0 sc__law_mixed.nd (r_mod (c_int rfl (fr_int t) (vr 0)) pv_int)) (pvs_one (pv_ret (r_mod (r_mul (r_mod (r_add (r_add (r_mul (vr 0) (r_add pv_int (r_mul (r_mul pv_int (vr 1)) (vr 1)))) (r_mul pv_int (vr 1))) pv_int) pv_int) pv_int) pv_int)))), F.bindsN fun _ _ _ _ _ _ us hl => match us, hl with | [_, _], _ => rfl⟩, F.kp, gl__law_mixed t⟩
theorem sc__law_begin : FnScope ["_law_script", "_law_cells_so", "_law_cell"] ["_law_script"] (defScope (top 60)) := ⟨rfl, rfl, rfl, by decide +kernel, rfl, by decide +kernel, by decide +kernel⟩
theorem ok__law_begin {P : Program} {w : World} {K : PySem.W.Frag} {mg : Str → Option Value} {base : Heap} (t : Told K mg base) : Df P w K mg base 3 "_law_begin" ["_law_script"] f__law_begin := by
  obtain ⟨fd, F⟩ := t.d.def_ 37 (d := mkD "_law_begin" 60) rfl
  exact ⟨⟨fd, fnV F sc__law_begin fun cdv A outer s H E hr => (pvs_cons (st_ 1 sc__law_begin.nd (pv_if (t_neD hr (vr 0) (pv_lst pav_nil)) (c_list rfl (fr_list t) (vr 0)) (pv_lst (pav_cons pv_int pav_nil)))) (pvs_one (pv_ret (pv_disp (ppv_cons (vr 1) (ppv_cons (pv_lc rfl sc__law_begin.nd (piv_list (vr 1)) (blk_by (N := ["_law_script", "_law_cells_so", "_law_cell"]) (sc := defScope (top 60)) (own := [("_law_cell", 2)]) (by decide +kernel)) (tgt_name 2) (fun _ _ _ _ _ => (pgn_ 2 sc__law_begin.nd)) (fun _ _ _ _ _ => (pv_if (t_ge (vr 2) (r_pow pv_int pv_int)) (vr 2) pv_int))) (ppv_cons pv_int ppv_nil))))))), F.bindsN fun _ _ _ _ _ _ us hl => match us, hl with | [_], _ => rfl⟩, F.kp, gl__law_begin t⟩
theorem sc__law_draw : FnScope ["_law_state", "_law_limit", "_law_at", "_law_place", "_law_left", "_law_number"] ["_law_state", "_law_limit"] (defScope (top 61)) := ⟨rfl, rfl, rfl, by decide +kernel, rfl, by decide +kernel, by decide +kernel⟩
theorem ok__law_draw {P : Program} {w : World} {K : PySem.W.Frag} {mg : Str → Option Value} {base : Heap} (t : Told K mg base) : Df P w K mg base 4 "_law_draw" ["_law_state", "_law_limit"] f__law_draw := by
  obtain ⟨fd, F⟩ := t.d.def_ 38 (d := mkD "_law_draw" 61) rfl
  exact ⟨⟨fd, fnV F sc__law_draw fun cdv A outer s H E hr => (pvs_cons (st_ 2 sc__law_draw.nd (r_dget hr (vr 0) pv_str)) (pvs_cons (pv_dput (room1 hr) (vr 0) pv_str (r_add (vr 2) pv_int)) (pvs_cons (st_ 3 sc__law_draw.nd (r_mod (c_int rfl (fr_int t) (vr 2)) (c_len rfl (fr_len t) (r_dget hr (vr 0) pv_str)))) (pvs_cons (st_ 4 sc__law_draw.nd (r_ix (r_dget hr (vr 0) pv_str) (vr 3))) (pvs_cons (pv_ifs (t_gt (vr 4) pv_int) (pvs_cons (pv_asg (r_div (vr 4) (vr 1)) (pgv_ix (r_dget hr (vr 0) pv_str) (vr 3))) (pvs_one (pv_ret (r_mod (c_int rfl (fr_int t) (vr 4)) (vr 1))))) pvs_nil) (pvs_cons (st_ 5 sc__law_draw.nd (pv_callO (ok__law_mixed t) hr (by omega) rfl takes_cx (pav_cons (pv_callO (ok__law_mixed t) hr (by omega) rfl takes_cx (pav_cons (r_ix (r_dget hr (vr 0) pv_str) (vr 3)) (pav_cons (vr 2) pav_nil))) (pav_cons (r_add pv_int (vr 2)) pav_nil)))) (pvs_one (pv_ret (r_mod (r_div (c_int rfl (fr_int t) (r_add (r_mul (vr 5) pv_int) (pv_callO (ok__law_mixed t) hr (by omega) rfl takes_cx (pav_cons (vr 5) (pav_cons (r_add pv_int (vr 2)) pav_nil))))) pv_int) (vr 1)))))))))), F.bindsN fun _ _ _ _ _ _ us hl => match us, hl with | [_, _], _ => rfl⟩, F.kp, gl__law_draw t⟩
theorem sc__law_of : FnScope ["_law_state", "_law_some"] ["_law_state", "_law_some"] (defScope (top 62)) := ⟨rfl, rfl, rfl, by decide +kernel, rfl, by decide +kernel, by decide +kernel⟩
theorem ok__law_of {P : Program} {w : World} {K : PySem.W.Frag} {mg : Str → Option Value} {base : Heap} (t : Told K mg base) : Df P w K mg base 5 "_law_of" ["_law_state", "_law_some"] f__law_of := by
  obtain ⟨fd, F⟩ := t.d.def_ 39 (d := mkD "_law_of" 62) rfl
  exact ⟨⟨fd, fnV F sc__law_of fun cdv A outer s H E hr => (pvs_one (pv_ret (r_ix (vr 1) (pv_callO (ok__law_draw t) hr (by omega) rfl takes_cx (pav_cons (vr 0) (pav_cons (c_len rfl (fr_len t) (vr 1)) pav_nil)))))), F.bindsN fun _ _ _ _ _ _ us hl => match us, hl with | [_, _], _ => rfl⟩, F.kp, gl__law_of t⟩
theorem sc__law_like : FnScope ["_law_got", "_law_due"] ["_law_got", "_law_due"] (defScope (top 63)) := ⟨rfl, rfl, rfl, by decide +kernel, rfl, by decide +kernel, by decide +kernel⟩
theorem ok__law_like {P : Program} {w : World} {K : PySem.W.Frag} {mg : Str → Option Value} {base : Heap} (t : Told K mg base) : DfG P w K mg base 3 "_law_like" ["_law_got", "_law_due"] f__law_like := by
  obtain ⟨fd, F⟩ := t.d.def_ 40 (d := mkD "_law_like" 63) rfl
  exact ⟨⟨fd, fnGV F sc__law_like fun cdv A outer s H E hgd hr => (pvs_one (pv_ret (v_eq (c_repr hgd hr rfl (fr_repr t) (vr 0)) (c_repr hgd hr rfl (fr_repr t) (vr 1))))), F.bindsN fun _ _ _ _ _ _ us hl => match us, hl with | [_, _], _ => rfl⟩, F.kp, gl__law_like t⟩
theorem sc__law_letter : FnScope ["_law_name"] ["_law_name"] (defScope (top 64)) := ⟨rfl, rfl, rfl, by decide +kernel, rfl, by decide +kernel, by decide +kernel⟩
theorem ok__law_letter {P : Program} {w : World} {K : PySem.W.Frag} {mg : Str → Option Value} {base : Heap} (t : Told K mg base) : Df P w K mg base 3 "_law_letter" ["_law_name"] f__law_letter := by
  obtain ⟨fd, F⟩ := t.d.def_ 41 (d := mkD "_law_letter" 64) rfl
  exact ⟨⟨fd, fnV F sc__law_letter fun cdv A outer s H E hr => (pvs_one (pv_ret (r_ixS pv_str (vr 0)))), F.bindsN fun _ _ _ _ _ _ us hl => match us, hl with | [_], _ => rfl⟩, F.kp, gl__law_letter t⟩
theorem sc__law_branch : FnScope ["_law_state", "_law_size", "_law_wides", "_law_guarded", "_law_pick", "_law_one", "_law_other"] ["_law_state", "_law_size", "_law_wides", "_law_guarded"] (defScope (top 65)) := ⟨rfl, rfl, rfl, by decide +kernel, rfl, by decide +kernel, by decide +kernel⟩
theorem sc__law_piece : FnScope ["_law_state", "_law_size", "_law_wides", "_law_guarded", "_law_number", "_law_pick", "_law_many_so", "_law_rows", "_law_step"] ["_law_state", "_law_size", "_law_wides", "_law_guarded"] (defScope (top 66)) := ⟨rfl, rfl, rfl, by decide +kernel, rfl, by decide +kernel, by decide +kernel⟩
theorem all__law_branch__law_piece {P : Program} {w : World} {K : PySem.W.Frag} {mg : Str → Option Value} {base : Heap} (t : Told K mg base) : ∀ n : Nat, Df P w K mg base (5 + n) "_law_branch" ["_law_state", "_law_size", "_law_wides", "_law_guarded"] (f__law_branch n) ∧ Df P w K mg base (5 + n) "_law_piece" ["_law_state", "_law_size", "_law_wides", "_law_guarded"] (f__law_piece n)
  | 0 => ⟨df_zero (by exact (t.d.def_ 42 (d := mkD "_law_branch" 65) rfl)) sc__law_branch (fun _ _ _ _ _ _ us hl => match us, hl with | [_, _, _, _], _ => rfl) (gl__law_branch t), df_zero (by exact (t.d.def_ 43 (d := mkD "_law_piece" 66) rfl)) sc__law_piece (fun _ _ _ _ _ _ us hl => match us, hl with | [_, _, _, _], _ => rfl) (gl__law_piece t)⟩
  | n + 1 => by
    obtain ⟨ih__law_branch, ih__law_piece⟩ := all__law_branch__law_piece (P := P) (w := w) t n
    refine ⟨?_, ?_⟩
    · obtain ⟨fd, F⟩ := t.d.def_ 42 (d := mkD "_law_branch" 65) rfl
      exact ⟨⟨fd, fnV (k := 5 + n) F sc__law_branch fun cdv A outer s H E hr => (pvs_cons (pv_par3 (i := 4) (j := 5) (l := 6) rfl sc__law_branch.nd rfl rfl rfl (by decide) (by decide) (by decide) rfl rfl rfl (pav_cons (pv_callO (ok__law_draw t) hr (by omega) rfl takes_cx (pav_cons (vr 0) (pav_cons pv_int pav_nil))) (pav_cons (pv_callO (ok__law_draw t) hr (by omega) rfl takes_cx (pav_cons (vr 0) (pav_cons pv_int pav_nil))) (pav_cons (pv_callO (ok__law_draw t) hr (by omega) rfl takes_cx (pav_cons (vr 0) (pav_cons pv_int pav_nil))) pav_nil))) rfl) (pvs_cons (pv_ifs (ptv_w (pwv_and (t_gt (vr 1) pv_int) (pwv_and1 (t_lt (vr 4) pv_int)))) (pvs_one (pv_ret (pv_tup (pav_cons (r_ix (pv_lst (pav_cons pv_str (pav_cons pv_str pav_nil))) (vr 4)) (pav_cons (vr 5) (pav_cons (vr 6) (pav_cons (pv_callO ih__law_branch hr (by omega) rfl takes_cx (pav_cons (vr 0) (pav_cons (r_sub (vr 1) pv_int) (pav_cons (vr 2) (pav_cons (vr 3) pav_nil))))) pav_nil))))))) pvs_nil) (pvs_cons (pv_ifs (t_lt (vr 4) pv_int) (pvs_one (pv_ret (pv_tup (pav_cons pv_str (pav_cons (vr 5) (pav_cons (vr 6) (pav_cons (pv_callO ih__law_piece hr (by omega) rfl takes_cx (pav_cons (vr 0) (pav_cons (r_sub (vr 1) pv_int) (pav_cons (vr 2) (pav_cons pv_bl pav_nil))))) pav_nil))))))) pvs_nil) (pvs_cons (pv_ifs (t_lt (vr 4) pv_int) (pvs_one (pv_ret (pv_tup (pav_cons pv_str (pav_cons (vr 5) (pav_cons (vr 6) (pav_cons (pv_callO ih__law_piece hr (by omega) rfl takes_cx (pav_cons (vr 0) (pav_cons (r_sub (vr 1) pv_int) (pav_cons (vr 2) (pav_cons pv_bl pav_nil))))) pav_nil))))))) pvs_nil) (pvs_one (pv_ret (pv_tup (pav_cons pv_str (pav_cons (pv_callO ih__law_piece hr (by omega) rfl takes_cx (pav_cons (vr 0) (pav_cons (r_sub (vr 1) pv_int) (pav_cons (vr 2) (pav_cons pv_bl pav_nil))))) pav_nil))))))))), F.bindsN fun _ _ _ _ _ _ us hl => match us, hl with | [_, _, _, _], _ => rfl⟩, F.kp, gl__law_branch t⟩
    · obtain ⟨fd, F⟩ := t.d.def_ 43 (d := mkD "_law_piece" 66) rfl
      exact ⟨⟨fd, fnV (k := 5 + n) F sc__law_piece fun cdv A outer s H E hr => (pvs_cons (pv_ifs (t_lt (vr 1) pv_int) (pvs_cons (pv_ifs (ptv_w (pwv_and (ptv_val (vr 3)) (pwv_and (t_neD hr (vr 2) (pv_lst pav_nil)) (pwv_and1 (t_eq (pv_callO (ok__law_draw t) hr (by omega) rfl takes_cx (pav_cons (vr 0) (pav_cons pv_int pav_nil))) pv_int))))) (pvs_cons (st_ 4 sc__law_piece.nd (pv_callO (ok__law_draw t) hr (by omega) rfl takes_cx (pav_cons (vr 0) (pav_cons (c_len rfl (fr_len t) (vr 2)) pav_nil)))) (pvs_one (pv_ret (pv_tup (pav_cons pv_str (pav_cons (vr 4) (pav_cons (c_tuple rfl (fr_tuple t) (pv_lc rfl sc__law_piece.nd (piv_range rfl (fr_range t) (pav_cons (r_ix (vr 2) (vr 4)) pav_nil)) (blk_by (N := ["_law_state", "_law_size", "_law_wides", "_law_guarded", "_law_number", "_law_pick", "_law_many_so", "_law_rows", "_law_step"]) (sc := defScope (top 66)) (own := [("_law_step", 8)]) (by decide +kernel)) (tgt_name 8) (fun _ _ _ _ _ => (pgn_ 8 sc__law_piece.nd)) (fun _ _ _ _ _ => (pv_callO (ok__law_draw t) hr (by omega) rfl takes_no (pav_cons (vr 0) (pav_cons pv_int pav_nil)))))) pav_nil))))))) pvs_nil) (pvs_one (pv_ret (pv_tup (pav_cons pv_str (pav_cons (pv_tup pav_nil) pav_nil)))))) pvs_nil) (pvs_cons (st_ 5 sc__law_piece.nd (pv_callO (ok__law_draw t) hr (by omega) rfl takes_cx (pav_cons (vr 0) (pav_cons pv_int pav_nil)))) (pvs_cons (pv_ifs (t_lt (vr 5) pv_int) (pvs_one (pv_ret (pv_callO ih__law_branch hr (by omega) rfl takes_cx (pav_cons (vr 0) (pav_cons (vr 1) (pav_cons (vr 2) (pav_cons (vr 3) pav_nil))))))) pvs_nil) (pvs_cons (pv_ifs (t_eq (vr 5) pv_int) (pvs_one (pv_ret (pv_tup (pav_cons pv_str (pav_cons (pv_callO (ok__law_draw t) hr (by omega) rfl takes_cx (pav_cons (vr 0) (pav_cons pv_int pav_nil))) (pav_cons (pv_callO ih__law_piece hr (by omega) rfl takes_cx (pav_cons (vr 0) (pav_cons (r_sub (vr 1) pv_int) (pav_cons (vr 2) (pav_cons (vr 3) pav_nil))))) pav_nil)))))) pvs_nil) (pvs_cons (st_ 6 sc__law_piece.nd (pv_callO (ok__law_draw t) hr (by omega) rfl takes_cx (pav_cons (vr 0) (pav_cons pv_int pav_nil)))) (pvs_cons (pv_ifs (ptv_w (pwv_or (t_lt (vr 5) pv_int) (pwv_or1 (ptv_not (ptv_val (vr 3)))))) (pvs_cons (pv_setLc rfl sc__law_piece.nd rfl rfl rfl (piv_range rfl (fr_range t) (pav_cons (vr 6) pav_nil)) (blk_by (N := ["_law_state", "_law_size", "_law_wides", "_law_guarded", "_law_number", "_law_pick", "_law_many_so", "_law_rows", "_law_step"]) (sc := defScope (top 66)) (own := [("_law_step", 8)]) (by decide +kernel)) (tgt_name 8) (fun _ _ _ _ _ => (pgn_ 8 sc__law_piece.nd)) (fun _ _ _ _ _ => (pv_callO ih__law_branch hr (by omega) rfl takes_no (pav_cons (vr 0) (pav_cons (r_sub (vr 1) pv_int) (pav_cons (vr 2) (pav_cons (vr 3) pav_nil))))))) (pvs_one (pv_ret (pv_tup (pav_cons pv_str (pav_cons (c_tuple rfl (fr_tuple t) (vr 7)) pav_nil)))))) pvs_nil) (pvs_one (pv_ret (pv_if (t_neD hr (vr 2) (pv_lst pav_nil)) (pv_tup (pav_cons pv_str (pav_cons pv_int (pav_cons (r_repT (pv_tup (pav_cons pv_int pav_nil)) (r_ix (vr 2) pv_int)) pav_nil)))) (pv_tup (pav_cons pv_str (pav_cons (pv_tup pav_nil) pav_nil)))))))))))), F.bindsN fun _ _ _ _ _ _ us hl => match us, hl with | [_, _, _, _], _ => rfl⟩, F.kp, gl__law_piece t⟩
theorem ok__law_branch {P : Program} {w : World} {K : PySem.W.Frag} {mg : Str → Option Value} {base : Heap} (t : Told K mg base) (n : Nat) : Df P w K mg base (5 + n) "_law_branch" ["_law_state", "_law_size", "_law_wides", "_law_guarded"] (f__law_branch n) := (all__law_branch__law_piece t n).1
theorem ok__law_piece {P : Program} {w : World} {K : PySem.W.Frag} {mg : Str → Option Value} {base : Heap} (t : Told K mg base) (n : Nat) : Df P w K mg base (5 + n) "_law_piece" ["_law_state", "_law_size", "_law_wides", "_law_guarded"] (f__law_piece n) := (all__law_branch__law_piece t n).2
theorem sc__law_main : FnScope ["_law_state", "_law_size", "_law_wides", "_law_many_so", "_law_parts", "_law_step"] ["_law_state", "_law_size", "_law_wides"] (defScope (top 67)) := ⟨rfl, rfl, rfl, by decide +kernel, rfl, by decide +kernel, by decide +kernel⟩
theorem ok__law_main {P : Program} {w : World} {K : PySem.W.Frag} {mg : Str → Option Value} {base : Heap} (t : Told K mg base) : Df P w K mg base 26 "_law_main" ["_law_state", "_law_size", "_law_wides"] f__law_main := by
  obtain ⟨fd, F⟩ := t.d.def_ 44 (d := mkD "_law_main" 67) rfl
  exact ⟨⟨fd, fnV F sc__law_main fun cdv A outer s H E hr => (pvs_cons (pv_ifs (t_eq (pv_callO (ok__law_draw t) hr (by omega) rfl takes_cx (pav_cons (vr 0) (pav_cons pv_int pav_nil))) pv_int) (pvs_one (pv_ret (pv_callO (ok__law_piece t 20) hr (by omega) rfl takes_cx (pav_cons (vr 0) (pav_cons (vr 1) (pav_cons (vr 2) (pav_cons pv_bl pav_nil))))))) pvs_nil) (pvs_cons (st_ 3 sc__law_main.nd (pv_callO (ok__law_draw t) hr (by omega) rfl takes_cx (pav_cons (vr 0) (pav_cons pv_int pav_nil)))) (pvs_cons (pv_setLc rfl sc__law_main.nd rfl rfl rfl (piv_range rfl (fr_range t) (pav_cons (vr 3) pav_nil)) (blk_by (N := ["_law_state", "_law_size", "_law_wides", "_law_many_so", "_law_parts", "_law_step"]) (sc := defScope (top 67)) (own := [("_law_step", 5)]) (by decide +kernel)) (tgt_name 5) (fun _ _ _ _ _ => (pgn_ 5 sc__law_main.nd)) (fun _ _ _ _ _ => (pv_callO (ok__law_piece t 20) hr (by omega) rfl takes_no (pav_cons (vr 0) (pav_cons (r_sub (vr 1) pv_int) (pav_cons (vr 2) (pav_cons pv_bl pav_nil))))))) (pvs_cons (pv_ifs (ptv_w (pwv_and (t_eq (pv_callO (ok__law_draw t) hr (by omega) rfl takes_cx (pav_cons (vr 0) (pav_cons pv_int pav_nil))) pv_int) (pwv_and1 (t_neD hr (vr 4) (pv_lst pav_nil))))) (pvs_one (pv_asg (pv_tup (pav_cons pv_str (pav_cons (pv_tup (pav_cons (r_ix (vr 4) pv_int) pav_nil)) pav_nil))) (pgv_ix (vr 4) pv_int))) pvs_nil) (pvs_one (pv_ret (pv_tup (pav_cons pv_str (pav_cons (c_tuple rfl (fr_tuple t) (vr 4)) pav_nil))))))))), F.bindsN fun _ _ _ _ _ _ us hl => match us, hl with | [_, _, _], _ => rfl⟩, F.kp, gl__law_main t⟩
theorem sc__law_closed : FnScope ["_law_piece_here", "_law_names", "_law_bound", "_law_word", "_law_good", "_law_one", "_law_other", "_law_part", "_law_name"] ["_law_piece_here", "_law_names", "_law_bound"] (defScope (top 68)) := ⟨rfl, rfl, rfl, by decide +kernel, rfl, by decide +kernel, by decide +kernel⟩
theorem all__law_closed {P : Program} {w : World} {K : PySem.W.Frag} {mg : Str → Option Value} {base : Heap} (t : Told K mg base) : ∀ n : Nat, Df P w K mg base (3 + n) "_law_closed" ["_law_piece_here", "_law_names", "_law_bound"] (f__law_closed n)
  | 0 => df_zero (by exact (t.d.def_ 45 (d := mkD "_law_closed" 68) rfl)) sc__law_closed (fun _ _ _ _ _ _ us hl => match us, hl with | [_, _, _], _ => rfl) (gl__law_closed t)
  | n + 1 => by
    have ih__law_closed := all__law_closed (P := P) (w := w) t n
    obtain ⟨fd, F⟩ := t.d.def_ 45 (d := mkD "_law_closed" 68) rfl
    exact ⟨⟨fd, fnV (k := 3 + n) F sc__law_closed fun cdv A outer s H E hr => (pvs_cons (st_ 3 sc__law_closed.nd (r_ixT (vr 0) pv_int)) (pvs_cons (pv_ifs (t_inT hr (vr 3) (pv_tup (pav_cons pv_str (pav_cons pv_str pav_nil)))) (pvs_one (pv_ret (pv_tup (pav_cons (vr 3) (pav_cons (c_tuple rfl (fr_tuple t) (pv_lc rfl sc__law_closed.nd (piv_tup (r_ixT (vr 0) pv_int)) (blk_by (N := ["_law_piece_here", "_law_names", "_law_bound", "_law_word", "_law_good", "_law_one", "_law_other", "_law_part", "_law_name"]) (sc := defScope (top 68)) (own := [("_law_part", 7)]) (by decide +kernel)) (tgt_name 7) (fun _ _ _ _ _ => (pgn_ 7 sc__law_closed.nd)) (fun _ _ _ _ _ => (pv_callO ih__law_closed hr (by omega) rfl takes_no (pav_cons (vr 7) (pav_cons (vr 1) (pav_cons (vr 2) pav_nil))))))) pav_nil))))) pvs_nil) (pvs_cons (pv_ifs (t_eq (vr 3) pv_str) (pvs_one (pv_ret (pv_tup (pav_cons (vr 3) (pav_cons (pv_callO ih__law_closed hr (by omega) rfl takes_cx (pav_cons (r_ixT (vr 0) pv_int) (pav_cons (vr 1) (pav_cons (vr 2) pav_nil)))) pav_nil))))) pvs_nil) (pvs_cons (st_ 4 sc__law_closed.nd (r_cat (vr 1) (vr 2))) (pvs_cons (pv_ifs (t_eq (vr 3) pv_str) (pvs_one (pv_ret (pv_tup (pav_cons (vr 3) (pav_cons (r_ixT (vr 0) pv_int) (pav_cons (c_tuple rfl (fr_tuple t) (pv_lc rfl sc__law_closed.nd (piv_tup (r_ixT (vr 0) pv_int)) (blk_by (N := ["_law_piece_here", "_law_names", "_law_bound", "_law_word", "_law_good", "_law_one", "_law_other", "_law_part", "_law_name"]) (sc := defScope (top 68)) (own := [("_law_name", 8)]) (by decide +kernel)) (tgt_name 8) (fun _ _ _ _ _ => (pgn_ 8 sc__law_closed.nd)) (fun _ _ _ _ _ => (pv_if (t_inL hr (vr 8) (vr 4)) (vr 8) (r_ix (vr 1) pv_int))))) pav_nil)))))) pvs_nil) (pvs_cons (pv_ifs (t_eq (vr 3) pv_str) (pvs_one (pv_ret (pv_tup (pav_cons (vr 3) (pav_cons (r_ixT (vr 0) pv_int) (pav_cons (pv_callO ih__law_closed hr (by omega) rfl takes_cx (pav_cons (r_ixT (vr 0) pv_int) (pav_cons (vr 1) (pav_cons (r_cat (vr 2) (pv_lst (pav_cons (r_ixT (vr 0) pv_int) pav_nil))) pav_nil)))) pav_nil)))))) pvs_nil) (pvs_cons (st_ 5 sc__law_closed.nd (pv_if (t_inL hr (r_ixT (vr 0) pv_int) (vr 4)) (r_ixT (vr 0) pv_int) (r_ix (vr 1) pv_int))) (pvs_cons (pv_ifs (t_eq (vr 3) pv_str) (pvs_one (pv_ret (pv_tup (pav_cons (vr 3) (pav_cons (vr 5) (pav_cons (r_ixT (vr 0) pv_int) (pav_cons (pv_callO ih__law_closed hr (by omega) rfl takes_cx (pav_cons (r_ixT (vr 0) pv_int) (pav_cons (vr 1) (pav_cons (r_cat (vr 2) (pv_lst (pav_cons (r_ixT (vr 0) pv_int) pav_nil))) pav_nil)))) pav_nil))))))) pvs_nil) (pvs_cons (st_ 6 sc__law_closed.nd (pv_if (t_inL hr (r_ixT (vr 0) pv_int) (vr 4)) (r_ixT (vr 0) pv_int) (r_ix (vr 1) pv_int))) (pvs_one (pv_ret (pv_tup (pav_cons (vr 3) (pav_cons (vr 5) (pav_cons (vr 6) (pav_cons (pv_callO ih__law_closed hr (by omega) rfl takes_cx (pav_cons (r_ixT (vr 0) pv_int) (pav_cons (vr 1) (pav_cons (vr 2) pav_nil)))) pav_nil)))))))))))))))), F.bindsN fun _ _ _ _ _ _ us hl => match us, hl with | [_, _, _], _ => rfl⟩, F.kp, gl__law_closed t⟩
theorem ok__law_closed {P : Program} {w : World} {K : PySem.W.Frag} {mg : Str → Option Value} {base : Heap} (t : Told K mg base) (n : Nat) : Df P w K mg base (3 + n) "_law_closed" ["_law_piece_here", "_law_names", "_law_bound"] (f__law_closed n) := (all__law_closed t n)
theorem sc__law_drawn : FnScope ["_law_state", "_law_wides", "_law_defs_so", "_law_wide", "_law_first", "_law_params_so", "_law_body", "_law_step", "_law_place"] ["_law_state"] (defScope (top 69)) := ⟨rfl, rfl, rfl, by decide +kernel, rfl, by decide +kernel, by decide +kernel⟩
theorem ok__law_drawn {P : Program} {w : World} {K : PySem.W.Frag} {mg : Str → Option Value} {base : Heap} (t : Told K mg base) : Df P w K mg base 27 "_law_drawn" ["_law_state"] f__law_drawn := by
  obtain ⟨fd, F⟩ := t.d.def_ 46 (d := mkD "_law_drawn" 69) rfl
  exact ⟨⟨fd, fnV F sc__law_drawn fun cdv A outer s H E hr => (pvs_cons (pv_par (i := 1) (j := 2) rfl sc__law_drawn.nd rfl rfl (by decide) rfl rfl (pav_cons (pv_lc rfl sc__law_drawn.nd (piv_range rfl (fr_range t) (pav_cons (pv_callO (ok__law_draw t) hr (by omega) rfl takes_cx (pav_cons (vr 0) (pav_cons pv_int pav_nil))) pav_nil)) (blk_by (N := ["_law_state", "_law_wides", "_law_defs_so", "_law_wide", "_law_first", "_law_params_so", "_law_body", "_law_step", "_law_place"]) (sc := defScope (top 69)) (own := [("_law_step", 7)]) (by decide +kernel)) (tgt_name 7) (fun _ _ _ _ _ => (pgn_ 7 sc__law_drawn.nd)) (fun _ _ _ _ _ => (r_add pv_int (pv_callO (ok__law_draw t) hr (by omega) rfl takes_no (pav_cons (vr 0) (pav_cons pv_int pav_nil)))))) (pav_cons (pv_tup pav_nil) pav_nil)) rfl) (pvs_cons (pv_for owns_cx rfl (piv_list (vr 1)) (gn_ 3 sc__law_drawn.nd) (pvs_cons (st_ 4 sc__law_drawn.nd (pv_callO (ok__law_draw t) hr (by omega) rfl takes_cx (pav_cons (vr 0) (pav_cons pv_int pav_nil)))) (pvs_cons (st_ 5 sc__law_drawn.nd (c_tuple rfl (fr_tuple t) (pv_lc rfl sc__law_drawn.nd (piv_range rfl (fr_range t) (pav_cons (vr 3) pav_nil)) (blk_by (N := ["_law_state", "_law_wides", "_law_defs_so", "_law_wide", "_law_first", "_law_params_so", "_law_body", "_law_step", "_law_place"]) (sc := defScope (top 69)) (own := [("_law_place", 8)]) (by decide +kernel)) (tgt_name 8) (fun _ _ _ _ _ => (pgn_ 8 sc__law_drawn.nd)) (fun _ _ _ _ _ => (r_mod (c_int rfl (fr_int t) (r_add (vr 4) (r_mul pv_int (vr 8)))) pv_int))))) (pvs_cons (st_ 6 sc__law_drawn.nd (pv_callO (ok__law_closed t 20) hr (by omega) rfl takes_cx (pav_cons (pv_callO (ok__law_piece t 20) hr (by omega) rfl takes_cx (pav_cons (vr 0) (pav_cons pv_int (pav_cons (vr 1) (pav_cons pv_bl pav_nil))))) (pav_cons (c_list rfl (fr_list t) (vr 5)) (pav_cons (pv_lst pav_nil) pav_nil))))) (pvs_one (st_ 2 sc__law_drawn.nd (r_catT (vr 2) (pv_tup (pav_cons (pv_tup (pav_cons (vr 5) (pav_cons (vr 6) pav_nil))) pav_nil))))))))) (pvs_one (pv_ret (pv_tup (pav_cons (vr 2) (pav_cons (pv_callO (ok__law_main t) hr (by omega) rfl takes_cx (pav_cons (vr 0) (pav_cons pv_int (pav_cons (vr 1) pav_nil)))) pav_nil))))))), F.bindsN fun _ _ _ _ _ _ us hl => match us, hl with | [_], _ => rfl⟩, F.kp, gl__law_drawn t⟩
theorem sc__law_words_of : FnScope ["_law_piece_here", "_law_word", "_law_found", "_law_part", "_law_name"] ["_law_piece_here"] (defScope (top 70)) := ⟨rfl, rfl, rfl, by decide +kernel, rfl, by decide +kernel, by decide +kernel⟩
theorem all__law_words_of {P : Program} {w : World} {K : PySem.W.Frag} {mg : Str → Option Value} {base : Heap} (t : Told K mg base) : ∀ n : Nat, Df P w K mg base (4 + n) "_law_words_of" ["_law_piece_here"] (f__law_words_of n)
  | 0 => df_zero (by exact (t.d.def_ 47 (d := mkD "_law_words_of" 70) rfl)) sc__law_words_of (fun _ _ _ _ _ _ us hl => match us, hl with | [_], _ => rfl) (gl__law_words_of t)
  | n + 1 => by
    have ih__law_words_of := all__law_words_of (P := P) (w := w) t n
    obtain ⟨fd, F⟩ := t.d.def_ 47 (d := mkD "_law_words_of" 70) rfl
    exact ⟨⟨fd, fnV (k := 4 + n) F sc__law_words_of fun cdv A outer s H E hr => (pvs_cons (st_ 1 sc__law_words_of.nd (r_ixT (vr 0) pv_int)) (pvs_cons (pv_ifs (t_eq (vr 1) pv_str) (pvs_cons (st_ 2 sc__law_words_of.nd (pv_lst pav_nil)) (pvs_cons (pv_for owns_cx rfl (piv_tup (r_ixT (vr 0) pv_int)) (gn_ 3 sc__law_words_of.nd) (pvs_one (st_ 2 sc__law_words_of.nd (r_cat (r_cat (vr 2) (pv_lst (pav_cons pv_str pav_nil))) (pv_callO ih__law_words_of hr (by omega) rfl takes_cx (pav_cons (vr 3) pav_nil)))))) (pvs_one (pv_ret (r_cat (r_cat (pv_lst (pav_cons pv_str pav_nil)) (pv_slice (vr 2) (pov_i pv_int) pov_no)) (pv_lst (pav_cons pv_str pav_nil))))))) pvs_nil) (pvs_cons (pv_ifs (t_eq (vr 1) pv_str) (pvs_cons (st_ 2 sc__law_words_of.nd (pv_lst pav_nil)) (pvs_cons (pv_for owns_cx rfl (piv_tup (r_ixT (vr 0) pv_int)) (gn_ 3 sc__law_words_of.nd) (pvs_one (st_ 2 sc__law_words_of.nd (r_cat (r_cat (vr 2) (pv_lst (pav_cons pv_str pav_nil))) (pv_callO ih__law_words_of hr (by omega) rfl takes_cx (pav_cons (vr 3) pav_nil)))))) (pvs_one (pv_ret (r_cat (r_cat (pv_lst (pav_cons pv_str pav_nil)) (pv_slice (vr 2) (pov_i pv_int) pov_no)) (pv_lst (pav_cons pv_str pav_nil))))))) pvs_nil) (pvs_cons (pv_ifs (t_eq (vr 1) pv_str) (pvs_one (pv_ret (r_cat (pv_lst (pav_cons (vr 1) pav_nil)) (pv_callO ih__law_words_of hr (by omega) rfl takes_cx (pav_cons (r_ixT (vr 0) pv_int) pav_nil))))) pvs_nil) (pvs_cons (pv_ifs (t_eq (vr 1) pv_str) (pvs_one (pv_ret (r_cat (pv_lst (pav_cons (vr 1) (pav_cons (pv_callO (ok__law_letter t) hr (by omega) rfl takes_cx (pav_cons (r_ixT (vr 0) pv_int) pav_nil)) pav_nil))) (pv_callO ih__law_words_of hr (by omega) rfl takes_cx (pav_cons (r_ixT (vr 0) pv_int) pav_nil))))) pvs_nil) (pvs_cons (pv_ifs (t_eq (vr 1) pv_str) (pvs_one (pv_ret (r_cat (r_cat (pv_lst (pav_cons (vr 1) (pav_cons (c_str rfl (fr_str t) (r_ixT (vr 0) pv_int)) (pav_cons pv_str pav_nil)))) (pv_lc rfl sc__law_words_of.nd (piv_tup (r_ixT (vr 0) pv_int)) (blk_by (N := ["_law_piece_here", "_law_word", "_law_found", "_law_part", "_law_name"]) (sc := defScope (top 70)) (own := [("_law_name", 4)]) (by decide +kernel)) (tgt_name 4) (fun _ _ _ _ _ => (pgn_ 4 sc__law_words_of.nd)) (fun _ _ _ _ _ => (pv_callO (ok__law_letter t) hr (by omega) rfl takes_no (pav_cons (vr 4) pav_nil))))) (pv_lst (pav_cons pv_str pav_nil))))) pvs_nil) (pvs_one (pv_ret (r_cat (pv_lst (pav_cons (vr 1) (pav_cons (pv_callO (ok__law_letter t) hr (by omega) rfl takes_cx (pav_cons (r_ixT (vr 0) pv_int) pav_nil)) (pav_cons (pv_callO (ok__law_letter t) hr (by omega) rfl takes_cx (pav_cons (r_ixT (vr 0) pv_int) pav_nil)) pav_nil)))) (pv_callO ih__law_words_of hr (by omega) rfl takes_cx (pav_cons (r_ixT (vr 0) pv_int) pav_nil))))))))))), F.bindsN fun _ _ _ _ _ _ us hl => match us, hl with | [_], _ => rfl⟩, F.kp, gl__law_words_of t⟩
theorem ok__law_words_of {P : Program} {w : World} {K : PySem.W.Frag} {mg : Str → Option Value} {base : Heap} (t : Told K mg base) (n : Nat) : Df P w K mg base (4 + n) "_law_words_of" ["_law_piece_here"] (f__law_words_of n) := (all__law_words_of t n)
theorem sc__law_words : FnScope ["_law_program_so", "_law_found", "_law_params_so", "_law_body", "_law_name"] ["_law_program_so"] (defScope (top 71)) := ⟨rfl, rfl, rfl, by decide +kernel, rfl, by decide +kernel, by decide +kernel⟩
theorem ok__law_words {P : Program} {w : World} {K : PySem.W.Frag} {mg : Str → Option Value} {base : Heap} (t : Told K mg base) : Df P w K mg base 25 "_law_words" ["_law_program_so"] f__law_words := by
  obtain ⟨fd, F⟩ := t.d.def_ 48 (d := mkD "_law_words" 71) rfl
  exact ⟨⟨fd, fnV F sc__law_words fun cdv A outer s H E hr => (pvs_cons (st_ 1 sc__law_words.nd (pv_lst pav_nil)) (pvs_cons (pv_for owns_cx rfl (piv_tup (r_ixT (vr 0) pv_int)) (pgv_tup rfl (pgvs_cons (gn_ 2 sc__law_words.nd) (pgvs_cons (gn_ 3 sc__law_words.nd) pgvs_nil))) (pvs_cons (st_ 1 sc__law_words.nd (r_cat (r_cat (r_cat (vr 1) (pv_lst (pav_cons pv_str (pav_cons pv_str pav_nil)))) (pv_lc rfl sc__law_words.nd (piv_tup (vr 2)) (blk_by (N := ["_law_program_so", "_law_found", "_law_params_so", "_law_body", "_law_name"]) (sc := defScope (top 71)) (own := [("_law_name", 4)]) (by decide +kernel)) (tgt_name 4) (fun _ _ _ _ _ => (pgn_ 4 sc__law_words.nd)) (fun _ _ _ _ _ => (pv_callO (ok__law_letter t) hr (by omega) rfl takes_no (pav_cons (vr 4) pav_nil))))) (pv_lst (pav_cons pv_str pav_nil)))) (pvs_one (st_ 1 sc__law_words.nd (r_cat (r_cat (vr 1) (pv_callO (ok__law_words_of t 20) hr (by omega) rfl takes_cx (pav_cons (vr 3) pav_nil))) (pv_lst (pav_cons pv_str pav_nil))))))) (pvs_one (pv_ret (r_cat (vr 1) (pv_callO (ok__law_words_of t 20) hr (by omega) rfl takes_cx (pav_cons (r_ixT (vr 0) pv_int) pav_nil))))))), F.bindsN fun _ _ _ _ _ _ us hl => match us, hl with | [_], _ => rfl⟩, F.kp, gl__law_words t⟩
theorem sc__law_spread_out : FnScope ["_law_state", "_law_words_here", "_law_found", "_law_word"] ["_law_state", "_law_words_here"] (defScope (top 72)) := ⟨rfl, rfl, rfl, by decide +kernel, rfl, by decide +kernel, by decide +kernel⟩
theorem ok__law_spread_out {P : Program} {w : World} {K : PySem.W.Frag} {mg : Str → Option Value} {base : Heap} (t : Told K mg base) : Df P w K mg base 5 "_law_spread_out" ["_law_state", "_law_words_here"] f__law_spread_out := by
  obtain ⟨fd, F⟩ := t.d.def_ 49 (d := mkD "_law_spread_out" 72) rfl
  exact ⟨⟨fd, fnV F sc__law_spread_out fun cdv A outer s H E hr => (pvs_cons (st_ 2 sc__law_spread_out.nd (r_repS pv_str (pv_callO (ok__law_draw t) hr (by omega) rfl takes_cx (pav_cons (vr 0) (pav_cons pv_int pav_nil))))) (pvs_cons (pv_for owns_cx rfl (piv_list (vr 1)) (gn_ 3 sc__law_spread_out.nd) (pvs_one (st_ 2 sc__law_spread_out.nd (r_addS (r_addS (vr 2) (vr 3)) (r_repS pv_str (r_add pv_int (pv_callO (ok__law_draw t) hr (by omega) rfl takes_cx (pav_cons (vr 0) (pav_cons pv_int pav_nil))))))))) (pvs_one (pv_ret (vr 2))))), F.bindsN fun _ _ _ _ _ _ us hl => match us, hl with | [_, _], _ => rfl⟩, F.kp, gl__law_spread_out t⟩
theorem sc__law_refused : FnScope ["_law_state", "_law_inner", "_law_path_so", "_law_bad", "_law_blank", "_law_odd", "_law_piece_here"] ["_law_state"] (defScope (top 74)) := ⟨rfl, rfl, rfl, by decide +kernel, rfl, by decide +kernel, by decide +kernel⟩
theorem sc_law : FnScope ["_law_script", "_law_state", "_law_turn", "_law_program_so", "_law_words_here", "_law_text", "_law_example", "_law_told"] ["_law_script"] (defScope (top 75)) := ⟨rfl, rfl, rfl, by decide +kernel, rfl, by decide +kernel, by decide +kernel⟩
theorem ok__law_refused {P : Program} {w : World} {K : PySem.W.Frag} {mg : Str → Option Value} {base : Heap} (t : Told K mg base) (TB : LamX.TabB base mg (cT K ("_law_refused", none)).1 (cT K ("_law_refused", none)).2) : DfG P w K mg base 34 "_law_refused" ["_law_state"] (f__law_refused (cT K ("_law_refused", none)).2) := by
  obtain ⟨fd, F⟩ := t.d.def_ 51 (d := mkD "_law_refused" 74) rfl
  exact ⟨⟨fd, fnGc F sc__law_refused fun cdv A outer s H E hc hgd hr => (pvs_cons (st_ 5 sc__law_refused.nd (pv_callO (ok__law_of t) hr (by omega) rfl takes_cx (pav_cons (vr 0) (pav_cons (pv_lst (pav_cons pv_non (pav_cons (pv_tup (pav_cons (pv_tup pav_nil) pav_nil)) (pav_cons (pv_lst (pav_cons (pv_tup pav_nil) (pav_cons (pv_tup (pav_cons pv_str (pav_cons (pv_tup pav_nil) pav_nil))) pav_nil))) pav_nil)))) pav_nil)))) (pvs_cons (pv_ifs (ptv_not (ptv_val (pv_callGO (ok__law_like t) hgd hr (by omega) rfl takes_cx (pav_cons (caught_ t TB hr rfl hc (LamX.lamS_by (sc := defScope (top 74)) (by decide +kernel)) rfl (fun _ _ _ _ _ => rfl) (fun _ _ _ _ _ _ _ hr2 => (pv_callO (ok_program_text t) hr2 (by omega) rfl takes_lam (pav_cons (vr 5) pav_nil)))) (pav_cons (pv_lst (pav_cons pv_str (pav_cons (pv_tup pav_nil) pav_nil))) pav_nil))))) (pvs_one (pv_ret pv_bl)) pvs_nil) (pvs_cons (st_ 1 sc__law_refused.nd (pv_tup (pav_cons pv_str (pav_cons (pv_tup (pav_cons (pv_tup (pav_cons pv_str (pav_cons (pv_tup pav_nil) pav_nil))) pav_nil)) pav_nil)))) (pvs_cons (st_ 6 sc__law_refused.nd (pv_callO (ok__law_of t) hr (by omega) rfl takes_cx (pav_cons (vr 0) (pav_cons (pv_lst (pav_cons pv_non (pav_cons (pv_tup (pav_cons pv_str pav_nil)) (pav_cons (pv_tup (pav_cons pv_str (pav_cons pv_int (pav_cons pv_int pav_nil)))) (pav_cons (pv_tup (pav_cons pv_str (pav_cons pv_int (pav_cons pv_int (pav_cons (pv_tup (pav_cons pv_str (pav_cons (pv_tup pav_nil) pav_nil))) pav_nil))))) (pav_cons (vr 1) pav_nil)))))) pav_nil)))) (pvs_cons (st_ 2 sc__law_refused.nd (pv_if (t_eqD hr (vr 6) (vr 1)) (pv_tup (pav_cons pv_int (pav_cons pv_int (pav_cons pv_int pav_nil)))) (pv_tup (pav_cons pv_int pav_nil)))) (pvs_cons (pv_ifs (ptv_not (ptv_val (pv_callGO (ok__law_like t) hgd hr (by omega) rfl takes_cx (pav_cons (caught_ t TB hr rfl hc (LamX.lamS_by (sc := defScope (top 74)) (by decide +kernel)) rfl (fun _ _ _ _ _ => rfl) (fun _ _ _ _ _ _ _ hr2 => (pv_callO (ok_program_text t) hr2 (by omega) rfl takes_lam (pav_cons (pv_tup (pav_cons (pv_tup pav_nil) (pav_cons (vr 6) pav_nil))) pav_nil)))) (pav_cons (pv_lst (pav_cons pv_str (pav_cons (vr 2) pav_nil))) pav_nil))))) (pvs_one (pv_ret pv_bl)) pvs_nil) (pvs_cons (st_ 3 sc__law_refused.nd (pv_callO (ok__law_of t) hr (by omega) rfl takes_cx (pav_cons (vr 0) (pav_cons (pv_lst (pav_cons pv_non (pav_cons pv_int (pav_cons (pv_lst (pav_cons pv_str (pav_cons pv_str pav_nil))) (pav_cons (pv_tup (pav_cons pv_str pav_nil)) pav_nil))))) pav_nil)))) (pvs_cons (pv_ifs (ptv_not (ptv_val (pv_callGO (ok__law_like t) hgd hr (by omega) rfl takes_cx (pav_cons (caught_ t TB hr rfl hc (LamX.lamS_by (sc := defScope (top 74)) (by decide +kernel)) rfl (fun _ _ _ _ _ => rfl) (fun _ _ _ _ _ _ _ hr2 => (pv_callO (ok_read_program t) hr2 (by omega) rfl takes_lam (pav_cons (vr 3) pav_nil)))) (pav_cons (pv_lst (pav_cons pv_str (pav_cons pv_int (pav_cons pv_int pav_nil)))) pav_nil))))) (pvs_one (pv_ret pv_bl)) pvs_nil) (pvs_cons (st_ 4 sc__law_refused.nd (r_repS pv_str (pv_callO (ok__law_draw t) hr (by omega) rfl takes_cx (pav_cons (vr 0) (pav_cons pv_int pav_nil))))) (pvs_one (pv_ret (pv_callGO (ok__law_like t) hgd hr (by omega) rfl takes_cx (pav_cons (caught_ t TB hr rfl hc (LamX.lamS_by (sc := defScope (top 74)) (by decide +kernel)) rfl (fun _ _ _ _ _ => rfl) (fun _ _ _ _ _ _ _ hr2 => (pv_callO (ok_read_program t) hr2 (by omega) rfl takes_lam (pav_cons (vr 4) pav_nil)))) (pav_cons (pv_lst (pav_cons pv_str (pav_cons pv_int (pav_cons pv_int pav_nil)))) pav_nil)))))))))))))), F.bindsN fun _ _ _ _ _ _ us hl => match us, hl with | [_], _ => rfl⟩, F.kp, gl__law_refused t⟩
theorem ok_law {P : Program} {w : World} {K : PySem.W.Frag} {mg : Str → Option Value} {base : Heap} (t : Told K mg base) (TB : LamX.TabB base mg (cT K ("_law_refused", none)).1 (cT K ("_law_refused", none)).2) {fd : FuncData} (F : FunD K "law" "law" (defArgs (top 75)) (defBody (top 75)) (defScope (top 75)) [] [] (ga K "law") fd) : FnG P w K mg base 35 (ga K "law") fd ["_law_script"] (spV K (ga K) 1 (f_law (cT K ("_law_refused", none)).2)) :=
  fnGV F sc_law fun cdv A outer s H E hgd hr => (pvs_cons (st_ 1 sc_law.nd (pv_callO (ok__law_begin t) hr (by omega) rfl takes_cx (pav_cons (vr 0) pav_nil))) (pvs_cons (pv_ifs (ptv_not (ptv_val (pv_callGO (ok__law_refused t TB) hgd hr (by omega) rfl takes_cx (pav_cons (vr 1) pav_nil)))) (pvs_one (pv_ret pv_bl)) pvs_nil) (pvs_cons (pv_for owns_cx rfl (piv_range rfl (fr_range t) (pav_cons pv_int pav_nil)) (gn_ 2 sc_law.nd) (pvs_cons (st_ 3 sc_law.nd (pv_callO (ok__law_drawn t) hr (by omega) rfl takes_cx (pav_cons (vr 1) pav_nil))) (pvs_cons (st_ 4 sc_law.nd (pv_callO (ok__law_words t) hr (by omega) rfl takes_cx (pav_cons (vr 3) pav_nil))) (pvs_cons (st_ 5 sc_law.nd (m_join pv_str (vr 4))) (pvs_cons (pv_ifs (ptv_not (ptv_val (pv_callGO (ok__law_like t) hgd hr (by omega) rfl takes_cx (pav_cons (pv_lst (pav_cons (pv_callO (ok_program_text t) hr (by omega) rfl takes_cx (pav_cons (vr 3) pav_nil)) (pav_cons (pv_callO (ok_read_program t) hr (by omega) rfl takes_cx (pav_cons (vr 5) pav_nil)) pav_nil))) (pav_cons (pv_lst (pav_cons (vr 5) (pav_cons (vr 3) pav_nil))) pav_nil))))) (pvs_one (pv_ret pv_bl)) pvs_nil) (pvs_one (pv_ifs (ptv_not (ptv_val (pv_callGO (ok__law_like t) hgd hr (by omega) rfl takes_cx (pav_cons (pv_callO (ok_read_program t) hr (by omega) rfl takes_cx (pav_cons (pv_callO (ok__law_spread_out t) hr (by omega) rfl takes_cx (pav_cons (vr 1) (pav_cons (vr 4) pav_nil))) pav_nil)) (pav_cons (vr 3) pav_nil))))) (pvs_one (pv_ret pv_bl)) pvs_nil))))))) (pvs_cons (st_ 6 sc_law.nd (pv_tup (pav_cons (pv_tup (pav_cons (pv_tup (pav_cons pv_int pav_nil)) (pav_cons (pv_tup (pav_cons pv_str (pav_cons pv_int (pav_cons pv_int (pav_cons (pv_tup (pav_cons pv_str (pav_cons pv_int (pav_cons (pv_tup (pav_cons pv_int pav_nil)) pav_nil)))) pav_nil))))) pav_nil))) pav_nil))) (pvs_cons (st_ 7 sc_law.nd (pv_callO (ok_program_text t) hr (by omega) rfl takes_cx (pav_cons (pv_tup (pav_cons (vr 6) (pav_cons (pv_tup (pav_cons pv_str (pav_cons (pv_tup (pav_cons (pv_tup (pav_cons pv_str (pav_cons pv_int (pav_cons (pv_tup (pav_cons pv_int pav_nil)) pav_nil)))) (pav_cons (pv_tup (pav_cons pv_str (pav_cons (pv_tup pav_nil) pav_nil))) pav_nil))) pav_nil))) pav_nil))) pav_nil))) (pvs_one (pv_ret (v_eq (vr 7) pv_str))))))))
end K85
end
section
set_option Elab.async false
set_option linter.all false
set_option maxRecDepth 100000
set_option maxHeartbeats 1000000
/-! M0: the small functions. -/
namespace K85
open PySem Vl
abbrev wS (ws : List Str) : W := .lst (ws.map W.str)
theorem word_at_ok {ws : List Str} {i : Nat} {l : W} {st : Store} {x : Str} (h : ws[i]? = some x) (h4 : i < 400) : f_word_at [wS ws, .int i, l] st = .ok (.str x) st := by
  have h1 : i < ws.length := (List.getElem?_eq_some_iff.mp h).1
  have e1 : decide (((ws.map W.str).length : Int) ≤ (i : Int)) = false := decide_eq_false (by simp; omega)
  have e2' : decide ((400 : Int) ≤ (i : Int)) = false := decide_eq_false (by omega)
  have e3 : L2.atI (ws.map W.str) (i : Int) = some (.str x) := by rw [at_nat]; simp [h]
  rw [u_word_at]
  simp only [b_word_at, fin_rt, fin_nx, fin_exc, x_cons, thenS_nx, thenS_rt, thenS_ct, thenS_exc, x_nil, x_set, x_expr, x_ret, x_if, x_cont, x_asg, x_par, x_par3, x_for, x_loop0, outL_nx, outL_ct, outL_rt, x_raise, x_var, getV_some, x_c, x_e2, x_eT, asB_bl, x_and, x_or, x_not, x_vand, x_vor, x_vnot, x_ifE, x_chain, x_anil, x_acons, x_tup, x_lst, x_lstM, x_call, x_callD, x_CB, x_M0, x_M, x_neg, x_isi, x_iL, x_iT, asL_lst, asT_tup, x_gN, x_gT2, x_lc, x_lcEnd, x_lcEndM, x_lc0, nox_ok, x_yes, k_ii, k_eqS, k_eqI, k_lenL, k_lenT, k_tupL, k_tupT, k_lstT, k_lstS, k_int, at_0, at_1, at_2, at_3, toR_some, k_ixT, k_ixL, k_isNN, k_isNT, isS_S, x_dput, Res.bind_ok, Res.bind_exc, Res.bind_bad, List.getElem?_cons_zero, List.getElem?_cons_succ, List.set_cons_zero, List.set_cons_succ, List.length_cons, List.length_nil, if_true, if_false, Bool.false_eq_true, Bool.not_true, Bool.not_false, cond_true, cond_false, small, Nat.reduceAdd, Nat.reduceLeDiff, decide_true, decide_false, reduceCtorEq, reduceIte, e1, e2', e3]
theorem word_at_end {ws : List Str} {i : Nat} {l : W} {st : Store} (h : ws.length ≤ i) : f_word_at [wS ws, .int i, l] st = .exc "BadText" [("word", .int ws.length), ("line", l)] st := by
  have e1 : decide ((ws.length : Int) ≤ (i : Int)) = true := decide_eq_true (by omega)
  rw [u_word_at]
  simp only [b_word_at, fin_rt, fin_nx, fin_exc, x_cons, thenS_nx, thenS_rt, thenS_ct, thenS_exc, x_nil, x_set, x_expr, x_ret, x_if, x_cont, x_asg, x_par, x_par3, x_for, x_loop0, outL_nx, outL_ct, outL_rt, x_raise, x_var, getV_some, x_c, x_e2, x_eT, asB_bl, x_and, x_or, x_not, x_vand, x_vor, x_vnot, x_ifE, x_chain, x_anil, x_acons, x_tup, x_lst, x_lstM, x_call, x_callD, x_CB, x_M0, x_M, x_neg, x_isi, x_iL, x_iT, asL_lst, asT_tup, x_gN, x_gT2, x_lc, x_lcEnd, x_lcEndM, x_lc0, nox_ok, x_yes, k_ii, k_eqS, k_eqI, k_lenL, k_lenT, k_tupL, k_tupT, k_lstT, k_lstS, k_int, at_0, at_1, at_2, at_3, toR_some, k_ixT, k_ixL, k_isNN, k_isNT, isS_S, x_dput, Res.bind_ok, Res.bind_exc, Res.bind_bad, List.getElem?_cons_zero, List.getElem?_cons_succ, List.set_cons_zero, List.set_cons_succ, List.length_cons, List.length_nil, if_true, if_false, Bool.false_eq_true, Bool.not_true, Bool.not_false, cond_true, cond_false, small, Nat.reduceAdd, Nat.reduceLeDiff, decide_true, decide_false, reduceCtorEq, reduceIte, e1, List.length_map]
  rfl
theorem succI {i : Nat} : ((i : Int) + 1) = ((i + 1 : Nat) : Int) := by omega
theorem need_word_ok {ws : List Str} {i : Nat} {l : W} {st : Store} {x : Str} (h : ws[i]? = some x) (h4 : i < 400) : f_need_word [wS ws, .int i, l, .str x] st = .ok (.int (i + 1 : Nat)) st := by
  rw [u_need_word]
  simp only [b_need_word, fin_rt, fin_nx, fin_exc, x_cons, thenS_nx, thenS_rt, thenS_ct, thenS_exc, x_nil, x_set, x_expr, x_ret, x_if, x_cont, x_asg, x_par, x_par3, x_for, x_loop0, outL_nx, outL_ct, outL_rt, x_raise, x_var, getV_some, x_c, x_e2, x_eT, asB_bl, x_and, x_or, x_not, x_vand, x_vor, x_vnot, x_ifE, x_chain, x_anil, x_acons, x_tup, x_lst, x_lstM, x_call, x_callD, x_CB, x_M0, x_M, x_neg, x_isi, x_iL, x_iT, asL_lst, asT_tup, x_gN, x_gT2, x_lc, x_lcEnd, x_lcEndM, x_lc0, nox_ok, x_yes, k_ii, k_eqS, k_eqI, k_lenL, k_lenT, k_tupL, k_tupT, k_lstT, k_lstS, k_int, at_0, at_1, at_2, at_3, toR_some, k_ixT, k_ixL, k_isNN, k_isNT, isS_S, x_dput, Res.bind_ok, Res.bind_exc, Res.bind_bad, List.getElem?_cons_zero, List.getElem?_cons_succ, List.set_cons_zero, List.set_cons_succ, List.length_cons, List.length_nil, if_true, if_false, Bool.false_eq_true, Bool.not_true, Bool.not_false, cond_true, cond_false, small, Nat.reduceAdd, Nat.reduceLeDiff, decide_true, decide_false, reduceCtorEq, reduceIte, word_at_ok h h4, succI]
theorem need_end_ok {ws : List Str} {l : W} {st : Store} : f_need_end [wS ws, .int (ws.length : Nat), l] st = .ok .non st := by
  have e1 : decide (((ws.length : Nat) : Int) < ((ws.map W.str).length : Int)) = false := decide_eq_false (by simp)
  rw [u_need_end]
  simp only [b_need_end, fin_rt, fin_nx, fin_exc, x_cons, thenS_nx, thenS_rt, thenS_ct, thenS_exc, x_nil, x_set, x_expr, x_ret, x_if, x_cont, x_asg, x_par, x_par3, x_for, x_loop0, outL_nx, outL_ct, outL_rt, x_raise, x_var, getV_some, x_c, x_e2, x_eT, asB_bl, x_and, x_or, x_not, x_vand, x_vor, x_vnot, x_ifE, x_chain, x_anil, x_acons, x_tup, x_lst, x_lstM, x_call, x_callD, x_CB, x_M0, x_M, x_neg, x_isi, x_iL, x_iT, asL_lst, asT_tup, x_gN, x_gT2, x_lc, x_lcEnd, x_lcEndM, x_lc0, nox_ok, x_yes, k_ii, k_eqS, k_eqI, k_lenL, k_lenT, k_tupL, k_tupT, k_lstT, k_lstS, k_int, at_0, at_1, at_2, at_3, toR_some, k_ixT, k_ixL, k_isNN, k_isNT, isS_S, x_dput, Res.bind_ok, Res.bind_exc, Res.bind_bad, List.getElem?_cons_zero, List.getElem?_cons_succ, List.set_cons_zero, List.set_cons_succ, List.length_cons, List.length_nil, if_true, if_false, Bool.false_eq_true, Bool.not_true, Bool.not_false, cond_true, cond_false, small, Nat.reduceAdd, Nat.reduceLeDiff, decide_true, decide_false, reduceCtorEq, reduceIte, e1]
/-! ### letters -/
def letter (k : Nat) : Str := ⟨#[97 + k]⟩
theorem letter_index : ∀ k : Nat, k < 10 → Builtin.Str.occurrences "abcdefghij" (letter k) 0 ("abcdefghij" : Str).length 1 = [k] := by decide +kernel
theorem letter_in : ∀ k : Nat, k < 10 → (97 + k) ∈ ("abcdefghij" : Str).cps.toList := by decide +kernel
theorem k_index {k : Nat} {st : Store} (h : k < 10) : kIndexS (.str "abcdefghij") [.str (letter k)] st = .ok (.int k) st := by
  unfold kIndexS
  simp only [letter_index k h]
theorem k_ninL {k : Nat} {st : Store} (h : k < 10) : kInS true (.str (letter k)) (.str "abcdefghij") st = .ok (.bl false) st := by
  show Res.ok (W.bl (cond true (!decide ((97 + k) ∈ ("abcdefghij" : Str).cps.toList)) _)) st = _
  rw [decide_eq_true (letter_in k h)]
  rfl
theorem letter_at_ok {ws : List Str} {i k : Nat} {l : W} {st : Store} (h : ws[i]? = some (letter k)) (h4 : i < 400) (hk : k < 10) : f_letter_at [wS ws, .int i, l] st = .ok (.tup [.int k, .int (i + 1 : Nat)]) st := by
  have e1 : kLen [.str (letter k)] st = .ok (.int 1) st := k_lenS (x := letter k) (by show 1 ≤ _; omega)
  rw [u_letter_at]
  simp only [b_letter_at, fin_rt, fin_nx, fin_exc, x_cons, thenS_nx, thenS_rt, thenS_ct, thenS_exc, x_nil, x_set, x_expr, x_ret, x_if, x_cont, x_asg, x_par, x_par3, x_for, x_loop0, outL_nx, outL_ct, outL_rt, x_raise, x_var, getV_some, x_c, x_e2, x_eT, asB_bl, x_and, x_or, x_not, x_vand, x_vor, x_vnot, x_ifE, x_chain, x_anil, x_acons, x_tup, x_lst, x_lstM, x_call, x_callD, x_CB, x_M0, x_M, x_neg, x_isi, x_iL, x_iT, asL_lst, asT_tup, x_gN, x_gT2, x_lc, x_lcEnd, x_lcEndM, x_lc0, nox_ok, x_yes, k_ii, k_eqS, k_eqI, k_lenL, k_lenT, k_tupL, k_tupT, k_lstT, k_lstS, k_int, at_0, at_1, at_2, at_3, toR_some, k_ixT, k_ixL, k_isNN, k_isNT, isS_S, x_dput, Res.bind_ok, Res.bind_exc, Res.bind_bad, List.getElem?_cons_zero, List.getElem?_cons_succ, List.set_cons_zero, List.set_cons_succ, List.length_cons, List.length_nil, if_true, if_false, Bool.false_eq_true, Bool.not_true, Bool.not_false, cond_true, cond_false, small, Nat.reduceAdd, Nat.reduceLeDiff, decide_true, decide_false, reduceCtorEq, reduceIte, word_at_ok h h4, e1, k_ninL hk, k_index hk, succI]
theorem law_letter_ok {k : Nat} {st : Store} (hk : k < 10) : f__law_letter [.int k] st = .ok (.str (letter k)) st := by
  have e1 : L2.atI ("abcdefghij" : Str).cps.toList (k : Int) = some (97 + k) := by
    rw [at_nat]
    revert k
    decide +kernel
  have e2 : kIxS (.str "abcdefghij") (.int k) st = .ok (.str (letter k)) st := by
    show (if ("abcdefghij" : Str).length ≤ 1000000 then (match L2.atI ("abcdefghij" : Str).cps.toList (k : Int) with
      | some c => Res.ok (W.str ⟨#[c]⟩) st
      | none => .bad) else .bad) = _
    rw [e1]
    rfl
  rw [u__law_letter]
  simp only [b__law_letter, fin_rt, fin_nx, fin_exc, x_cons, thenS_nx, thenS_rt, thenS_ct, thenS_exc, x_nil, x_set, x_expr, x_ret, x_if, x_cont, x_asg, x_par, x_par3, x_for, x_loop0, outL_nx, outL_ct, outL_rt, x_raise, x_var, getV_some, x_c, x_e2, x_eT, asB_bl, x_and, x_or, x_not, x_vand, x_vor, x_vnot, x_ifE, x_chain, x_anil, x_acons, x_tup, x_lst, x_lstM, x_call, x_callD, x_CB, x_M0, x_M, x_neg, x_isi, x_iL, x_iT, asL_lst, asT_tup, x_gN, x_gT2, x_lc, x_lcEnd, x_lcEndM, x_lc0, nox_ok, x_yes, k_ii, k_eqS, k_eqI, k_lenL, k_lenT, k_tupL, k_tupT, k_lstT, k_lstS, k_int, at_0, at_1, at_2, at_3, toR_some, k_ixT, k_ixL, k_isNN, k_isNT, isS_S, x_dput, Res.bind_ok, Res.bind_exc, Res.bind_bad, List.getElem?_cons_zero, List.getElem?_cons_succ, List.set_cons_zero, List.set_cons_succ, List.length_cons, List.length_nil, if_true, if_false, Bool.false_eq_true, Bool.not_true, Bool.not_false, cond_true, cond_false, small, Nat.reduceAdd, Nat.reduceLeDiff, decide_true, decide_false, reduceCtorEq, reduceIte, e2]
end K85
end
section
set_option Elab.async false
set_option linter.all false
set_option maxRecDepth 100000
set_option maxHeartbeats 1000000
/-! M1: pieces, their words. -/
namespace K85
open PySem Vl
inductive Hd where
  | send | take | alike | unlike
def Hd.w : Hd → Str
  | .send => "send"
  | .take => "take"
  | .alike => "alike"
  | .unlike => "unlike"
inductive Pc where
  | sum (b : Bool) (l : List Pc) | wait (p : Pc) | nw (x : Nat) (p : Pc) | call (k : Nat) (ns : List Nat) | pre (h : Hd) (x y : Nat) (p : Pc)
abbrev nat (n : Nat) : W := .int n
def num (k : Nat) : Str := toString (k : Int)
mutual
def Pc.w : Pc → W
  | .sum b l => .tup [.str (cond b "one" "beside"), .tup (Pc.wl l)]
  | .wait p => .tup [.str "wait", p.w]
  | .nw x p => .tup [.str "new", nat x, p.w]
  | .call k ns => .tup [.str "call", nat k, .tup (ns.map nat)]
  | .pre h x y p => .tup [.str h.w, nat x, nat y, p.w]
def Pc.wl : List Pc → List W
  | [] => []
  | p :: l => p.w :: Pc.wl l
end
mutual
def Pc.t : Pc → List Str
  | .sum b l => cond b "(" "[" :: (Pc.sepT (cond b "+" "/") l ++ ([cond b ")" "]"] : List Str))
  | .wait p => "wait" :: p.t
  | .nw x p => "new" :: letter x :: p.t
  | .call k ns => "call" :: num k :: "(" :: (ns.map letter ++ ([")"] : List Str))
  | .pre h x y p => h.w :: letter x :: letter y :: p.t
def Pc.sepT (s : Str) : List Pc → List Str
  | [] => []
  | p :: l => p.t ++ Pc.restT s l
def Pc.restT (s : Str) : List Pc → List Str
  | [] => []
  | p :: l => s :: (p.t ++ Pc.restT s l)
end
mutual
def Pc.d : Pc → Nat
  | .sum _ l => Pc.dl l + 1
  | .wait p => p.d + 1
  | .nw _ p => p.d + 1
  | .call _ _ => 1
  | .pre _ _ _ p => p.d + 1
def Pc.dl : List Pc → Nat
  | [] => 0
  | p :: l => max p.d (Pc.dl l)
end
mutual
/-- names and numbers in their bounds -/
def Pc.nm : Pc → Prop
  | .sum _ l => Pc.nml l
  | .wait p => p.nm
  | .nw x p => x < 10 ∧ p.nm
  | .call k ns => k < 10 ∧ ∀ n ∈ ns, n < 10
  | .pre _ x y p => x < 10 ∧ y < 10 ∧ p.nm
def Pc.nml : List Pc → Prop
  | [] => True
  | p :: l => p.nm ∧ Pc.nml l
end
theorem small_of {l : List Str} {n : Nat} (h : l.length ≤ n) (hn : n ≤ 1000000) : small (l.map W.str) = true := small_len (by simp; omega)
theorem cat_ok {a b : List Str} {st : Store} (h : a.length + b.length ≤ 1000000) : kCat (wS a) (wS b) st = .ok (wS (a ++ b)) st := by
  show kCat (.lst (a.map W.str)) (.lst (b.map W.str)) st = .ok (.lst ((a ++ b).map W.str)) st
  rw [List.map_append]
  exact k_cat (small_len (by simp; omega))
theorem one_ (x : Str) : W.lst [.str x] = wS [x] := rfl
theorem two_ (x y : Str) : W.lst [.str x, .str y] = wS [x, y] := rfl
theorem three_ (x y z : Str) : W.lst [.str x, .str y, .str z] = wS [x, y, z] := rfl
theorem nil_ : W.lst [] = wS [] := rfl
/-! ### the law's own words -/
theorem loop_words {F : List W → Store → Res W} {st : Store} (s : Str) {a b : W} {x : Option W} (l : List Pc) : ∀ (acc : List Str) (y : Option W), (∀ p ∈ l, F [p.w] st = .ok (wS p.t) st) → acc.length + (Pc.restT s l).length ≤ 1000000 →
    ∃ y', sLoop (gN 3) (sSet 2 (e2 kCat (e2 kCat (eVar 2) (eLst (aCons (eC (.str s)) aNil))) (eCall 1 F (aCons (eVar 3) aNil)))) (Pc.wl l) [some a, some b, some (wS acc), y, x] st = .ok (.nx [some a, some b, some (wS (acc ++ Pc.restT s l)), y', x]) st := by
  induction l with
  | nil =>
    intro acc y _ _
    exact ⟨y, by simp [Pc.wl, Pc.restT, x_loop0]⟩
  | cons p l ih =>
    intro acc y hF hl
    have hp := hF p (List.mem_cons_self ..)
    simp only [Pc.restT, List.length_cons, List.length_append] at hl
    obtain ⟨y', e⟩ := ih (acc ++ [s] ++ p.t) (some p.w) (fun q hq => hF q (List.mem_cons_of_mem _ hq)) (by simp; omega)
    refine ⟨y', ?_⟩
    have c1 : kCat (wS acc) (wS [s]) st = .ok (wS (acc ++ [s])) st := cat_ok (by simp; omega)
    have c2 : kCat (wS (acc ++ [s])) (wS p.t) st = .ok (wS (acc ++ [s] ++ p.t)) st := cat_ok (by simp; omega)
    simp only [Pc.wl, x_loop, fin_rt, fin_nx, fin_exc, x_cons, thenS_nx, thenS_rt, thenS_ct, thenS_exc, x_nil, x_set, x_expr, x_ret, x_if, x_cont, x_asg, x_par, x_par3, x_for, x_loop0, outL_nx, outL_ct, outL_rt, x_raise, x_var, getV_some, x_c, x_e2, x_eT, asB_bl, x_and, x_or, x_not, x_vand, x_vor, x_vnot, x_ifE, x_chain, x_anil, x_acons, x_tup, x_lst, x_lstM, x_call, x_callD, x_CB, x_M0, x_M, x_neg, x_isi, x_iL, x_iT, asL_lst, asT_tup, x_gN, x_gT2, x_lc, x_lcEnd, x_lcEndM, x_lc0, nox_ok, x_yes, k_ii, k_eqS, k_eqI, k_lenL, k_lenT, k_tupL, k_tupT, k_lstT, k_lstS, k_int, at_0, at_1, at_2, at_3, toR_some, k_ixT, k_ixL, k_isNN, k_isNT, isS_S, x_dput, Res.bind_ok, Res.bind_exc, Res.bind_bad, List.getElem?_cons_zero, List.getElem?_cons_succ, List.set_cons_zero, List.set_cons_succ, List.length_cons, List.length_nil, if_true, if_false, Bool.false_eq_true, Bool.not_true, Bool.not_false, cond_true, cond_false, small, Nat.reduceAdd, Nat.reduceLeDiff, decide_true, decide_false, reduceCtorEq, reduceIte, one_, c1, hp, c2]
    rw [e]
    simp [Pc.restT]
theorem dl_le {p : Pc} : ∀ {l : List Pc}, p ∈ l → p.d ≤ Pc.dl l
  | q :: l, h => by
    rcases List.mem_cons.mp h with rfl | h
    · exact Nat.le_max_left _ _
    · exact Nat.le_trans (dl_le h) (Nat.le_max_right _ _)
theorem nml_of {p : Pc} : ∀ {l : List Pc}, p ∈ l → Pc.nml l → p.nm
  | q :: l, h, hn => by
    rcases List.mem_cons.mp h with rfl | h
    · exact hn.1
    · exact nml_of h hn.2
theorem restT_len {p : Pc} (s : Str) : ∀ {l : List Pc}, p ∈ l → p.t.length ≤ (Pc.restT s l).length
  | q :: l, h => by
    rcases List.mem_cons.mp h with rfl | h
    · simp [Pc.restT]; omega
    · have := restT_len s h; simp [Pc.restT]; omega
theorem sep_rest (s : Str) : ∀ l : List Pc, Pc.sepT s l = (Pc.restT s l).drop 1
  | [] => rfl
  | p :: l => by simp [Pc.sepT, Pc.restT]
theorem sep_len (s : Str) (l : List Pc) : (Pc.restT s l).length ≤ (Pc.sepT s l).length + 1 := by rw [sep_rest]; simp; omega
end K85
end
section
set_option Elab.async false
set_option linter.all false
set_option maxRecDepth 100000
set_option maxHeartbeats 1000000
/-! M2: the words of a piece, by the law and by the program. -/
namespace K85
open PySem Vl
theorem lc_map {α : Type} (u v : α → W) (e : Env') (i : Nat) (fa : EvE) (st : Store) : ∀ (l : List α) (acc : List W), (∀ x ∈ l, fa (e.set i (some (u x))) st = .ok (v x) st) → acc.length + l.length ≤ 900000 →
    lcLoop (gN i) bYes fa (l.map u) acc e st = .ok (acc ++ l.map v) st
  | [], acc, _, _ => by simp [x_lc0]
  | x :: l, acc, h, hl => by
    have hx := h x (List.mem_cons_self ..)
    simp only [List.length_cons] at hl
    have ih := lc_map u v e i fa st l (acc ++ [v x]) (fun y hy => h y (List.mem_cons_of_mem _ hy)) (by simp; omega)
    have sm : small (v x :: acc) = true := small_len (by simp; omega)
    rw [List.map_cons, x_lcS]
    simp only [x_gN, nox_ok, Res.bind_ok, x_yes, if_true, hx, sm, ih]
    simp
theorem map_letters {ns : List Nat} : ns.map (fun n => W.str (letter n)) = (ns.map letter).map W.str := by simp
theorem str_num : ∀ k : Nat, k < 10 → ((k : Int)).natAbs.log2 < 1920 := by decide +kernel
theorem k_str {k : Nat} {st : Store} (h : k < 10) : kStr [.int k] st = .ok (.str (num k)) st := by
  show (if ((k : Int)).natAbs.log2 < 1920 then Res.ok (W.str (toString (k : Int))) st else .bad) = _
  rw [if_pos (str_num k h)]
  rfl
theorem cut1 {l : List W} : cutW l (some 1) none = l.drop 1 := by
  unfold cutW HT.sIx
  simp
  rw [List.take_of_length_le (by simp)]
  by_cases h : 1 ≤ l.length
  · rw [show min 1 l.length = 1 by omega]
    simp
  · have : l.length = 0 := by omega
    rw [List.eq_nil_of_length_eq_zero this]; simp
theorem slice1 {i : Nat} {e : Env'} {st : Store} {ws : List Str} (h : e[i]? = some (some (wS ws))) : eSl (eVar i) (oI (eC (.int 1))) oNo e st = .ok (wS (ws.drop 1)) st := by
  unfold eSl oI oNo
  simp only [x_var, h, getV_some, Res.bind_ok, x_c]
  show Res.ok (W.lst (cutW (ws.map W.str) (some 1) none)) st = _
  rw [cut1, ← List.map_drop]
theorem lwords_ok : ∀ (n : Nat) (p : Pc) (st : Store), p.d < n → p.nm → p.t.length ≤ 100000 → f__law_words_of n [p.w] st = .ok (wS p.t) st
  | 0, p, _, h, _, _ => by omega
  | n + 1, .sum b l, st, h, hn, hl => by
    simp only [Pc.d] at h
    simp only [Pc.t, List.length_cons, List.length_append, List.length_nil] at hl
    have hs := sep_len (cond b "+" "/") l
    have hF : ∀ p ∈ l, f__law_words_of n [p.w] st = .ok (wS p.t) st := fun p hp => lwords_ok n p st (by have := dl_le hp; omega) (nml_of hp hn) (by have := restT_len (cond b "+" "/") hp; omega)
    rw [u__law_words_of]
    cases b with
    | true =>
      obtain ⟨y', e⟩ := loop_words (F := f__law_words_of n) (st := st) "+" (a := (Pc.sum true l).w) (b := .str "one") (x := none) l [] none hF (by simp only [cond_true, cond_false] at hl hs; simp; omega)
      simp only [cond_true] at hl hs
      have c1 := cat_ok (st := st) (a := [("(" : Str)]) (b := (Pc.sepT "+" l)) (by simp; omega)
      have c2 := cat_ok (st := st) (a := ([("(" : Str)] ++ Pc.sepT "+" l)) (b := [(")" : Str)]) (by simp; omega)
      simp only [Pc.w, cond_true] at e ⊢
      simp only [List.nil_append] at e
      simp only [b__law_words_of, fin_rt, fin_nx, fin_exc, x_cons, thenS_nx, thenS_rt, thenS_ct, thenS_exc, x_nil, x_set, x_expr, x_ret, x_if, x_cont, x_asg, x_par, x_par3, x_for, x_loop0, outL_nx, outL_ct, outL_rt, x_raise, x_var, getV_some, x_c, x_e2, x_eT, asB_bl, x_and, x_or, x_not, x_vand, x_vor, x_vnot, x_ifE, x_chain, x_anil, x_acons, x_tup, x_lst, x_lstM, x_call, x_callD, x_CB, x_M0, x_M, x_neg, x_isi, x_iL, x_iT, asL_lst, asT_tup, x_gN, x_gT2, x_lc, x_lcEnd, x_lcEndM, x_lc0, nox_ok, x_yes, k_ii, k_eqS, k_eqI, k_lenL, k_lenT, k_tupL, k_tupT, k_lstT, k_lstS, k_int, at_0, at_1, at_2, at_3, toR_some, k_ixT, k_ixL, k_isNN, k_isNT, isS_S, x_dput, Res.bind_ok, Res.bind_exc, Res.bind_bad, List.getElem?_cons_zero, List.getElem?_cons_succ, List.set_cons_zero, List.set_cons_succ, List.length_cons, List.length_nil, if_true, if_false, Bool.false_eq_true, Bool.not_true, Bool.not_false, cond_true, cond_false, small, Nat.reduceAdd, Nat.reduceLeDiff, decide_true, decide_false, reduceCtorEq, reduceIte, nil_, one_, e, slice1 (i := 2) (e := [_, _, some (wS (Pc.restT "+" l)), _, _]) rfl, ← sep_rest, c1, c2]
      simp [Pc.t]
    | false =>
      obtain ⟨y', e⟩ := loop_words (F := f__law_words_of n) (st := st) "/" (a := (Pc.sum false l).w) (b := .str "beside") (x := none) l [] none hF (by simp only [cond_true, cond_false] at hl hs; simp; omega)
      simp only [cond_false] at hl hs
      have c1 := cat_ok (st := st) (a := [("[" : Str)]) (b := (Pc.sepT "/" l)) (by simp; omega)
      have c2 := cat_ok (st := st) (a := ([("[" : Str)] ++ Pc.sepT "/" l)) (b := [("]" : Str)]) (by simp; omega)
      have d1 : decide (("beside" : Str) = "one") = false := by decide +kernel
      simp only [Pc.w, cond_false] at e ⊢
      simp only [List.nil_append] at e
      simp only [b__law_words_of, fin_rt, fin_nx, fin_exc, x_cons, thenS_nx, thenS_rt, thenS_ct, thenS_exc, x_nil, x_set, x_expr, x_ret, x_if, x_cont, x_asg, x_par, x_par3, x_for, x_loop0, outL_nx, outL_ct, outL_rt, x_raise, x_var, getV_some, x_c, x_e2, x_eT, asB_bl, x_and, x_or, x_not, x_vand, x_vor, x_vnot, x_ifE, x_chain, x_anil, x_acons, x_tup, x_lst, x_lstM, x_call, x_callD, x_CB, x_M0, x_M, x_neg, x_isi, x_iL, x_iT, asL_lst, asT_tup, x_gN, x_gT2, x_lc, x_lcEnd, x_lcEndM, x_lc0, nox_ok, x_yes, k_ii, k_eqS, k_eqI, k_lenL, k_lenT, k_tupL, k_tupT, k_lstT, k_lstS, k_int, at_0, at_1, at_2, at_3, toR_some, k_ixT, k_ixL, k_isNN, k_isNT, isS_S, x_dput, Res.bind_ok, Res.bind_exc, Res.bind_bad, List.getElem?_cons_zero, List.getElem?_cons_succ, List.set_cons_zero, List.set_cons_succ, List.length_cons, List.length_nil, if_true, if_false, Bool.false_eq_true, Bool.not_true, Bool.not_false, cond_true, cond_false, small, Nat.reduceAdd, Nat.reduceLeDiff, decide_true, decide_false, reduceCtorEq, reduceIte, d1, nil_, one_, e, slice1 (i := 2) (e := [_, _, some (wS (Pc.restT "/" l)), _, _]) rfl, ← sep_rest, c1, c2]
      simp [Pc.t]
  | n + 1, .wait p, st, h, hn, hl => by
    simp only [Pc.d] at h
    simp only [Pc.t, List.length_cons] at hl
    have hp := lwords_ok n p st (by omega) hn (by omega)
    have c1 := cat_ok (st := st) (a := [("wait" : Str)]) (b := p.t) (by simp; omega)
    have d1 : decide (("wait" : Str) = "one") = false := by decide +kernel
    have d2 : decide (("wait" : Str) = "beside") = false := by decide +kernel
    rw [u__law_words_of]
    simp only [Pc.w, b__law_words_of, fin_rt, fin_nx, fin_exc, x_cons, thenS_nx, thenS_rt, thenS_ct, thenS_exc, x_nil, x_set, x_expr, x_ret, x_if, x_cont, x_asg, x_par, x_par3, x_for, x_loop0, outL_nx, outL_ct, outL_rt, x_raise, x_var, getV_some, x_c, x_e2, x_eT, asB_bl, x_and, x_or, x_not, x_vand, x_vor, x_vnot, x_ifE, x_chain, x_anil, x_acons, x_tup, x_lst, x_lstM, x_call, x_callD, x_CB, x_M0, x_M, x_neg, x_isi, x_iL, x_iT, asL_lst, asT_tup, x_gN, x_gT2, x_lc, x_lcEnd, x_lcEndM, x_lc0, nox_ok, x_yes, k_ii, k_eqS, k_eqI, k_lenL, k_lenT, k_tupL, k_tupT, k_lstT, k_lstS, k_int, at_0, at_1, at_2, at_3, toR_some, k_ixT, k_ixL, k_isNN, k_isNT, isS_S, x_dput, Res.bind_ok, Res.bind_exc, Res.bind_bad, List.getElem?_cons_zero, List.getElem?_cons_succ, List.set_cons_zero, List.set_cons_succ, List.length_cons, List.length_nil, if_true, if_false, Bool.false_eq_true, Bool.not_true, Bool.not_false, cond_true, cond_false, small, Nat.reduceAdd, Nat.reduceLeDiff, decide_true, decide_false, reduceCtorEq, reduceIte, d1, d2, one_, hp, c1]
    simp [Pc.t]
  | n + 1, .nw x p, st, h, hn, hl => by
    simp only [Pc.d] at h
    simp only [Pc.t, List.length_cons] at hl
    obtain ⟨hx, hn⟩ := hn
    have hp := lwords_ok n p st (by omega) hn (by omega)
    have c1 := cat_ok (st := st) (a := [("new" : Str), letter x]) (b := p.t) (by simp; omega)
    have d1 : decide (("new" : Str) = "one") = false := by decide +kernel
    have d2 : decide (("new" : Str) = "beside") = false := by decide +kernel
    have d3 : decide (("new" : Str) = "wait") = false := by decide +kernel
    rw [u__law_words_of]
    simp only [Pc.w, nat, b__law_words_of, fin_rt, fin_nx, fin_exc, x_cons, thenS_nx, thenS_rt, thenS_ct, thenS_exc, x_nil, x_set, x_expr, x_ret, x_if, x_cont, x_asg, x_par, x_par3, x_for, x_loop0, outL_nx, outL_ct, outL_rt, x_raise, x_var, getV_some, x_c, x_e2, x_eT, asB_bl, x_and, x_or, x_not, x_vand, x_vor, x_vnot, x_ifE, x_chain, x_anil, x_acons, x_tup, x_lst, x_lstM, x_call, x_callD, x_CB, x_M0, x_M, x_neg, x_isi, x_iL, x_iT, asL_lst, asT_tup, x_gN, x_gT2, x_lc, x_lcEnd, x_lcEndM, x_lc0, nox_ok, x_yes, k_ii, k_eqS, k_eqI, k_lenL, k_lenT, k_tupL, k_tupT, k_lstT, k_lstS, k_int, at_0, at_1, at_2, at_3, toR_some, k_ixT, k_ixL, k_isNN, k_isNT, isS_S, x_dput, Res.bind_ok, Res.bind_exc, Res.bind_bad, List.getElem?_cons_zero, List.getElem?_cons_succ, List.set_cons_zero, List.set_cons_succ, List.length_cons, List.length_nil, if_true, if_false, Bool.false_eq_true, Bool.not_true, Bool.not_false, cond_true, cond_false, small, Nat.reduceAdd, Nat.reduceLeDiff, decide_true, decide_false, reduceCtorEq, reduceIte, d1, d2, d3, law_letter_ok hx, two_, hp, c1]
    simp [Pc.t]
  | n + 1, .call k ns, st, h, hn, hl => by
    simp only [Pc.t, List.length_cons, List.length_append, List.length_map, List.length_nil] at hl
    obtain ⟨hk, hn⟩ := hn
    have d1 : decide (("call" : Str) = "one") = false := by decide +kernel
    have d2 : decide (("call" : Str) = "beside") = false := by decide +kernel
    have d3 : decide (("call" : Str) = "wait") = false := by decide +kernel
    have d4 : decide (("call" : Str) = "new") = false := by decide +kernel
    have m := lc_map nat (fun n => W.str (letter n)) [some (.tup [.str "call", .int k, .tup (ns.map nat)]), some (.str "call"), none, none, none] 4 (eCall 1 f__law_letter (aCons (eVar 4) aNil)) st ns [] (fun x hx => by
      simp only [nat, fin_rt, fin_nx, fin_exc, x_cons, thenS_nx, thenS_rt, thenS_ct, thenS_exc, x_nil, x_set, x_expr, x_ret, x_if, x_cont, x_asg, x_par, x_par3, x_for, x_loop0, outL_nx, outL_ct, outL_rt, x_raise, x_var, getV_some, x_c, x_e2, x_eT, asB_bl, x_and, x_or, x_not, x_vand, x_vor, x_vnot, x_ifE, x_chain, x_anil, x_acons, x_tup, x_lst, x_lstM, x_call, x_callD, x_CB, x_M0, x_M, x_neg, x_isi, x_iL, x_iT, asL_lst, asT_tup, x_gN, x_gT2, x_lc, x_lcEnd, x_lcEndM, x_lc0, nox_ok, x_yes, k_ii, k_eqS, k_eqI, k_lenL, k_lenT, k_tupL, k_tupT, k_lstT, k_lstS, k_int, at_0, at_1, at_2, at_3, toR_some, k_ixT, k_ixL, k_isNN, k_isNT, isS_S, x_dput, Res.bind_ok, Res.bind_exc, Res.bind_bad, List.getElem?_cons_zero, List.getElem?_cons_succ, List.set_cons_zero, List.set_cons_succ, List.length_cons, List.length_nil, if_true, if_false, Bool.false_eq_true, Bool.not_true, Bool.not_false, cond_true, cond_false, small, Nat.reduceAdd, Nat.reduceLeDiff, decide_true, decide_false, reduceCtorEq, reduceIte, law_letter_ok (hn x hx)]) (by simp; omega)
    rw [List.nil_append, map_letters] at m
    have c1 := cat_ok (st := st) (a := [("call" : Str), num k, "("]) (b := (ns.map letter)) (by simp; omega)
    have c2 := cat_ok (st := st) (a := ([("call" : Str), num k, "("] ++ ns.map letter)) (b := [(")" : Str)]) (by simp; omega)
    rw [u__law_words_of]
    simp only [Pc.w, nat, b__law_words_of, fin_rt, fin_nx, fin_exc, x_cons, thenS_nx, thenS_rt, thenS_ct, thenS_exc, x_nil, x_set, x_expr, x_ret, x_if, x_cont, x_asg, x_par, x_par3, x_for, x_loop0, outL_nx, outL_ct, outL_rt, x_raise, x_var, getV_some, x_c, x_e2, x_eT, asB_bl, x_and, x_or, x_not, x_vand, x_vor, x_vnot, x_ifE, x_chain, x_anil, x_acons, x_tup, x_lst, x_lstM, x_call, x_callD, x_CB, x_M0, x_M, x_neg, x_isi, x_iL, x_iT, asL_lst, asT_tup, x_gN, x_gT2, x_lc, x_lcEnd, x_lcEndM, x_lc0, nox_ok, x_yes, k_ii, k_eqS, k_eqI, k_lenL, k_lenT, k_tupL, k_tupT, k_lstT, k_lstS, k_int, at_0, at_1, at_2, at_3, toR_some, k_ixT, k_ixL, k_isNN, k_isNT, isS_S, x_dput, Res.bind_ok, Res.bind_exc, Res.bind_bad, List.getElem?_cons_zero, List.getElem?_cons_succ, List.set_cons_zero, List.set_cons_succ, List.length_cons, List.length_nil, if_true, if_false, Bool.false_eq_true, Bool.not_true, Bool.not_false, cond_true, cond_false, small, Nat.reduceAdd, Nat.reduceLeDiff, decide_true, decide_false, reduceCtorEq, reduceIte, d1, d2, d3, d4, k_str hk, three_, one_]
    simp only [m, fin_rt, fin_nx, fin_exc, x_cons, thenS_nx, thenS_rt, thenS_ct, thenS_exc, x_nil, x_set, x_expr, x_ret, x_if, x_cont, x_asg, x_par, x_par3, x_for, x_loop0, outL_nx, outL_ct, outL_rt, x_raise, x_var, getV_some, x_c, x_e2, x_eT, asB_bl, x_and, x_or, x_not, x_vand, x_vor, x_vnot, x_ifE, x_chain, x_anil, x_acons, x_tup, x_lst, x_lstM, x_call, x_callD, x_CB, x_M0, x_M, x_neg, x_isi, x_iL, x_iT, asL_lst, asT_tup, x_gN, x_gT2, x_lc, x_lcEnd, x_lcEndM, x_lc0, nox_ok, x_yes, k_ii, k_eqS, k_eqI, k_lenL, k_lenT, k_tupL, k_tupT, k_lstT, k_lstS, k_int, at_0, at_1, at_2, at_3, toR_some, k_ixT, k_ixL, k_isNN, k_isNT, isS_S, x_dput, Res.bind_ok, Res.bind_exc, Res.bind_bad, List.getElem?_cons_zero, List.getElem?_cons_succ, List.set_cons_zero, List.set_cons_succ, List.length_cons, List.length_nil, if_true, if_false, Bool.false_eq_true, Bool.not_true, Bool.not_false, cond_true, cond_false, small, Nat.reduceAdd, Nat.reduceLeDiff, decide_true, decide_false, reduceCtorEq, reduceIte, c1, c2]
    simp [Pc.t]
  | n + 1, .pre hd x y p, st, h, hn, hl => by
    simp only [Pc.d] at h
    simp only [Pc.t, List.length_cons] at hl
    obtain ⟨hx, hy, hn⟩ := hn
    have hp := lwords_ok n p st (by omega) hn (by omega)
    have c1 := cat_ok (st := st) (a := [hd.w, letter x, letter y]) (b := p.t) (by simp; omega)
    have d1 : decide (hd.w = "one") = false := by cases hd <;> decide +kernel
    have d2 : decide (hd.w = "beside") = false := by cases hd <;> decide +kernel
    have d3 : decide (hd.w = "wait") = false := by cases hd <;> decide +kernel
    have d4 : decide (hd.w = "new") = false := by cases hd <;> decide +kernel
    have d5 : decide (hd.w = "call") = false := by cases hd <;> decide +kernel
    rw [u__law_words_of]
    simp only [Pc.w, nat, b__law_words_of, fin_rt, fin_nx, fin_exc, x_cons, thenS_nx, thenS_rt, thenS_ct, thenS_exc, x_nil, x_set, x_expr, x_ret, x_if, x_cont, x_asg, x_par, x_par3, x_for, x_loop0, outL_nx, outL_ct, outL_rt, x_raise, x_var, getV_some, x_c, x_e2, x_eT, asB_bl, x_and, x_or, x_not, x_vand, x_vor, x_vnot, x_ifE, x_chain, x_anil, x_acons, x_tup, x_lst, x_lstM, x_call, x_callD, x_CB, x_M0, x_M, x_neg, x_isi, x_iL, x_iT, asL_lst, asT_tup, x_gN, x_gT2, x_lc, x_lcEnd, x_lcEndM, x_lc0, nox_ok, x_yes, k_ii, k_eqS, k_eqI, k_lenL, k_lenT, k_tupL, k_tupT, k_lstT, k_lstS, k_int, at_0, at_1, at_2, at_3, toR_some, k_ixT, k_ixL, k_isNN, k_isNT, isS_S, x_dput, Res.bind_ok, Res.bind_exc, Res.bind_bad, List.getElem?_cons_zero, List.getElem?_cons_succ, List.set_cons_zero, List.set_cons_succ, List.length_cons, List.length_nil, if_true, if_false, Bool.false_eq_true, Bool.not_true, Bool.not_false, cond_true, cond_false, small, Nat.reduceAdd, Nat.reduceLeDiff, decide_true, decide_false, reduceCtorEq, reduceIte, d1, d2, d3, d4, d5, law_letter_ok hx, law_letter_ok hy, three_, hp, c1]
    simp [Pc.t]
end K85
end
section
set_option Elab.async false
set_option linter.all false
set_option maxRecDepth 100000
set_option maxHeartbeats 1000000
/-! M3: membership of texts; the program's words. -/
namespace K85
open PySem Vl
def ok1 (x : Str) : Bool := (PyData.str x).canLay0
def chk (neg : Bool) (x : Str) (l : List Str) (r : Bool) : Bool := ok1 x && (l.all ok1 && decide (cond neg (!decide (x ∈ l)) (decide (x ∈ l)) = r))
theorem dats_strs : ∀ l : List Str, dats (l.map W.str) = some (l.map PyData.str)
  | [] => rfl
  | x :: l => by
    rw [List.map_cons, List.map_cons]
    unfold dats
    rw [dats_strs l]
    rfl
theorem lay_strs : ∀ l : List Str, l.all ok1 = true → PyData.canLayAll0 (l.map PyData.str) = true
  | [], _ => by simp [PyData.canLayAll0]
  | x :: l, h => by
    rw [List.all_cons, Bool.and_eq_true] at h
    rw [List.map_cons]
    unfold PyData.canLayAll0
    rw [lay_strs l h.2, Bool.and_true]
    exact h.1
theorem deep_strs : ∀ l : List Str, PyData.depthAll (l.map PyData.str) = 0
  | [] => by simp [PyData.depthAll]
  | x :: l => by
    rw [List.map_cons]
    unfold PyData.depthAll
    rw [deep_strs l]
    simp [PyData.depth]
theorem any_strs (x : Str) : ∀ l : List Str, ((l.map PyData.str).any fun z => PyData.eqv z (.str x)) = decide (x ∈ l)
  | [] => by simp
  | y :: l => by
    rw [List.map_cons, List.any_cons, any_strs x l]
    have : PyData.eqv (.str y) (.str x) = decide (x = y) := by
      unfold PyData.eqv
      by_cases h : x = y
      · subst h; simp
      · rw [decide_eq_false h]; simp; exact fun z => h z.symm
    rw [this]
    by_cases h : x = y
    · subst h; simp
    · simp [h]
theorem shaped_str {x : Str} (h : ok1 x = true) : SeqAt.shaped (.str x) = true := by
  unfold SeqAt.shaped
  rw [Bool.and_eq_true]
  exact ⟨h, by simp [PyData.depth]⟩
theorem shaped_strs {l : List Str} (h : l.all ok1 = true) : SeqAt.shaped (.tuple (l.map PyData.str)) = true := by
  unfold SeqAt.shaped
  rw [Bool.and_eq_true]
  refine ⟨by simpa [PyData.canLay0] using lay_strs l h, ?_⟩
  simp [PyData.depth, deep_strs]
theorem in_ {neg r : Bool} {x : Str} {l : List Str} {st : Store} (h : chk neg x l r = true) : kInT neg (.str x) (.tup (l.map W.str)) st = .ok (.bl r) st := by
  unfold chk at h
  rw [Bool.and_eq_true, Bool.and_eq_true] at h
  obtain ⟨h1, h2, h3⟩ := h
  have e1 : dat (.str x) = some (.str x) := rfl
  have e2 : dat (.tup (l.map W.str)) = some (.tuple (l.map PyData.str)) := by
    unfold dat
    rw [dats_strs]
    rfl
  unfold kInT
  rw [e1, e2]
  simp only [shaped_str h1, shaped_strs h2, Bool.and_self, if_true, any_strs]
  rw [of_decide_eq_true h3]
theorem loop_pw {F : List W → Store → Res W} {st : Store} (b : Bool) {a : W} (l : List Pc) : ∀ (k : Nat) (acc : List Str) (x y z : Option W), (∀ p ∈ l, F [p.w] st = .ok (wS p.t) st) → acc.length + (Pc.restT (cond b "+" "/") l).length ≤ 1000000 →
    ∃ x' y' z', sLoop (gT 2 (gsCons (gN 3) (gsCons (gN 4) gsNil))) (sCons (sSet 5 (eIf (eT (e2 kGt (eVar 3) (eC (.int 0)))) (eLst (aCons (eIf (eT (e2 (kEq false) (eVar 1) (eC (.str "one")))) (eC (.str "+")) (eC (.str "/"))) aNil)) (eLst aNil))) (sSet 2 (e2 kCat (e2 kCat (eVar 2) (eVar 5)) (eCall 1 F (aCons (eVar 4) aNil)))))
      (((Pc.wl l).zipIdx k).map fun p => .tup [.int (p.2 : Nat), p.1]) [some a, some (.str (cond b "one" "beside")), some (wS acc), x, y, z] st = .ok (.nx [some a, some (.str (cond b "one" "beside")), some (wS (acc ++ (if k = 0 then Pc.sepT (cond b "+" "/") l else Pc.restT (cond b "+" "/") l))), x', y', z']) st := by
  induction l with
  | nil =>
    intro k acc x y z _ _
    exact ⟨x, y, z, by simp [Pc.wl, Pc.restT, Pc.sepT, x_loop0]⟩
  | cons p l ih =>
    intro k acc x y z hF hl
    have hp := hF p (List.mem_cons_self ..)
    simp only [Pc.restT, List.length_cons, List.length_append] at hl
    have d0 : decide (("beside" : Str) = "one") = false := by decide +kernel
    by_cases hk : k = 0
    · subst hk
      obtain ⟨x', y', z', e⟩ := ih 1 (acc ++ [] ++ p.t) (some (.int (0 : Nat))) (some p.w) (some (wS [])) (fun q hq => hF q (List.mem_cons_of_mem _ hq)) (by simp; omega)
      refine ⟨x', y', z', ?_⟩
      have c1 := cat_ok (st := st) (a := acc) (b := []) (by simp; omega)
      have c2 := cat_ok (st := st) (a := acc ++ []) (b := p.t) (by simp; omega)
      have d1 : decide ((0 : Int) < ((0 : Nat) : Int)) = false := rfl
      simp only [Pc.wl, List.zipIdx_cons, List.map_cons, x_loop, fin_rt, fin_nx, fin_exc, x_cons, thenS_nx, thenS_rt, thenS_ct, thenS_exc, x_nil, x_set, x_expr, x_ret, x_if, x_cont, x_asg, x_par, x_par3, x_for, x_loop0, outL_nx, outL_ct, outL_rt, x_raise, x_var, getV_some, x_c, x_e2, x_eT, asB_bl, x_and, x_or, x_not, x_vand, x_vor, x_vnot, x_ifE, x_chain, x_anil, x_acons, x_tup, x_lst, x_lstM, x_call, x_callD, x_CB, x_M0, x_M, x_neg, x_isi, x_iL, x_iT, asL_lst, asT_tup, x_gN, x_gT2, x_lc, x_lcEnd, x_lcEndM, x_lc0, nox_ok, x_yes, k_ii, k_eqS, k_eqI, k_lenL, k_lenT, k_tupL, k_tupT, k_lstT, k_lstS, k_int, at_0, at_1, at_2, at_3, toR_some, k_ixT, k_ixL, k_isNN, k_isNT, isS_S, x_dput, Res.bind_ok, Res.bind_exc, Res.bind_bad, List.getElem?_cons_zero, List.getElem?_cons_succ, List.set_cons_zero, List.set_cons_succ, List.length_cons, List.length_nil, if_true, if_false, Bool.false_eq_true, Bool.not_true, Bool.not_false, cond_true, cond_false, small, Nat.reduceAdd, Nat.reduceLeDiff, decide_true, decide_false, reduceCtorEq, reduceIte, d1, nil_, c1, hp, c2, Nat.zero_add]
      rw [e]
      simp [Pc.sepT]
    · obtain ⟨x', y', z', e⟩ := ih (k + 1) (acc ++ ([cond b "+" "/"] : List Str) ++ p.t) (some (.int (k : Nat))) (some p.w) (some (wS [cond b "+" "/"])) (fun q hq => hF q (List.mem_cons_of_mem _ hq)) (by simp; omega)
      refine ⟨x', y', z', ?_⟩
      have c1 := cat_ok (st := st) (a := acc) (b := [cond b "+" "/"]) (by simp; omega)
      have c2 := cat_ok (st := st) (a := acc ++ ([cond b "+" "/"] : List Str)) (b := p.t) (by simp; omega)
      have d1 : decide ((0 : Int) < (k : Int)) = true := decide_eq_true (by omega)
      rw [if_neg (by omega)] at e
      cases b with
      | true =>
        simp only [cond_true] at c1 c2 e ⊢
        simp only [Pc.wl, List.zipIdx_cons, List.map_cons, x_loop, fin_rt, fin_nx, fin_exc, x_cons, thenS_nx, thenS_rt, thenS_ct, thenS_exc, x_nil, x_set, x_expr, x_ret, x_if, x_cont, x_asg, x_par, x_par3, x_for, x_loop0, outL_nx, outL_ct, outL_rt, x_raise, x_var, getV_some, x_c, x_e2, x_eT, asB_bl, x_and, x_or, x_not, x_vand, x_vor, x_vnot, x_ifE, x_chain, x_anil, x_acons, x_tup, x_lst, x_lstM, x_call, x_callD, x_CB, x_M0, x_M, x_neg, x_isi, x_iL, x_iT, asL_lst, asT_tup, x_gN, x_gT2, x_lc, x_lcEnd, x_lcEndM, x_lc0, nox_ok, x_yes, k_ii, k_eqS, k_eqI, k_lenL, k_lenT, k_tupL, k_tupT, k_lstT, k_lstS, k_int, at_0, at_1, at_2, at_3, toR_some, k_ixT, k_ixL, k_isNN, k_isNT, isS_S, x_dput, Res.bind_ok, Res.bind_exc, Res.bind_bad, List.getElem?_cons_zero, List.getElem?_cons_succ, List.set_cons_zero, List.set_cons_succ, List.length_cons, List.length_nil, if_true, if_false, Bool.false_eq_true, Bool.not_true, Bool.not_false, cond_true, cond_false, small, Nat.reduceAdd, Nat.reduceLeDiff, decide_true, decide_false, reduceCtorEq, reduceIte, d1, one_, c1, hp, c2]
        rw [e, if_neg hk]
        simp [Pc.restT]
      | false =>
        simp only [cond_false] at c1 c2 e ⊢
        simp only [Pc.wl, List.zipIdx_cons, List.map_cons, x_loop, fin_rt, fin_nx, fin_exc, x_cons, thenS_nx, thenS_rt, thenS_ct, thenS_exc, x_nil, x_set, x_expr, x_ret, x_if, x_cont, x_asg, x_par, x_par3, x_for, x_loop0, outL_nx, outL_ct, outL_rt, x_raise, x_var, getV_some, x_c, x_e2, x_eT, asB_bl, x_and, x_or, x_not, x_vand, x_vor, x_vnot, x_ifE, x_chain, x_anil, x_acons, x_tup, x_lst, x_lstM, x_call, x_callD, x_CB, x_M0, x_M, x_neg, x_isi, x_iL, x_iT, asL_lst, asT_tup, x_gN, x_gT2, x_lc, x_lcEnd, x_lcEndM, x_lc0, nox_ok, x_yes, k_ii, k_eqS, k_eqI, k_lenL, k_lenT, k_tupL, k_tupT, k_lstT, k_lstS, k_int, at_0, at_1, at_2, at_3, toR_some, k_ixT, k_ixL, k_isNN, k_isNT, isS_S, x_dput, Res.bind_ok, Res.bind_exc, Res.bind_bad, List.getElem?_cons_zero, List.getElem?_cons_succ, List.set_cons_zero, List.set_cons_succ, List.length_cons, List.length_nil, if_true, if_false, Bool.false_eq_true, Bool.not_true, Bool.not_false, cond_true, cond_false, small, Nat.reduceAdd, Nat.reduceLeDiff, decide_true, decide_false, reduceCtorEq, reduceIte, d0, d1, one_, c1, hp, c2]
        rw [e, if_neg hk]
        simp [Pc.restT]
theorem k_ixSl {k : Nat} {st : Store} (hk : k < 10) : kIxS (.str "abcdefghij") (.int k) st = .ok (.str (letter k)) st := by
  have e1 : L2.atI ("abcdefghij" : Str).cps.toList (k : Int) = some (97 + k) := by
    rw [at_nat]
    revert k
    decide +kernel
  show (if ("abcdefghij" : Str).length ≤ 1000000 then (match L2.atI ("abcdefghij" : Str).cps.toList (k : Int) with
    | some c => Res.ok (W.str ⟨#[c]⟩) st
    | none => .bad) else .bad) = _
  rw [e1]
  rfl
theorem letters_of_ok {ns : List Nat} {st : Store} (h : ∀ n ∈ ns, n < 10) (hl : ns.length ≤ 100000) : f_letters_of [.tup (ns.map nat)] st = .ok (wS ("(" :: (ns.map letter ++ ([")"] : List Str)))) st := by
  have m := lc_map nat (fun n => W.str (letter n)) [some (.tup (ns.map nat)), none] 1 (e2 kIxS (eC (.str "abcdefghij")) (eVar 1)) st ns [] (fun x hx => by
    simp only [nat, fin_rt, fin_nx, fin_exc, x_cons, thenS_nx, thenS_rt, thenS_ct, thenS_exc, x_nil, x_set, x_expr, x_ret, x_if, x_cont, x_asg, x_par, x_par3, x_for, x_loop0, outL_nx, outL_ct, outL_rt, x_raise, x_var, getV_some, x_c, x_e2, x_eT, asB_bl, x_and, x_or, x_not, x_vand, x_vor, x_vnot, x_ifE, x_chain, x_anil, x_acons, x_tup, x_lst, x_lstM, x_call, x_callD, x_CB, x_M0, x_M, x_neg, x_isi, x_iL, x_iT, asL_lst, asT_tup, x_gN, x_gT2, x_lc, x_lcEnd, x_lcEndM, x_lc0, nox_ok, x_yes, k_ii, k_eqS, k_eqI, k_lenL, k_lenT, k_tupL, k_tupT, k_lstT, k_lstS, k_int, at_0, at_1, at_2, at_3, toR_some, k_ixT, k_ixL, k_isNN, k_isNT, isS_S, x_dput, Res.bind_ok, Res.bind_exc, Res.bind_bad, List.getElem?_cons_zero, List.getElem?_cons_succ, List.set_cons_zero, List.set_cons_succ, List.length_cons, List.length_nil, if_true, if_false, Bool.false_eq_true, Bool.not_true, Bool.not_false, cond_true, cond_false, small, Nat.reduceAdd, Nat.reduceLeDiff, decide_true, decide_false, reduceCtorEq, reduceIte, k_ixSl (h x hx)]) (by simp; omega)
  rw [List.nil_append, map_letters] at m
  have c1 := cat_ok (st := st) (a := [("(" : Str)]) (b := ns.map letter) (by simp; omega)
  have c2 := cat_ok (st := st) (a := [("(" : Str)] ++ ns.map letter) (b := [(")" : Str)]) (by simp; omega)
  rw [u_letters_of]
  simp only [b_letters_of, fin_rt, fin_nx, fin_exc, x_cons, thenS_nx, thenS_rt, thenS_ct, thenS_exc, x_nil, x_set, x_expr, x_ret, x_if, x_cont, x_asg, x_par, x_par3, x_for, x_loop0, outL_nx, outL_ct, outL_rt, x_raise, x_var, getV_some, x_c, x_e2, x_eT, asB_bl, x_and, x_or, x_not, x_vand, x_vor, x_vnot, x_ifE, x_chain, x_anil, x_acons, x_tup, x_lst, x_lstM, x_call, x_callD, x_CB, x_M0, x_M, x_neg, x_isi, x_iL, x_iT, asL_lst, asT_tup, x_gN, x_gT2, x_lc, x_lcEnd, x_lcEndM, x_lc0, nox_ok, x_yes, k_ii, k_eqS, k_eqI, k_lenL, k_lenT, k_tupL, k_tupT, k_lstT, k_lstS, k_int, at_0, at_1, at_2, at_3, toR_some, k_ixT, k_ixL, k_isNN, k_isNT, isS_S, x_dput, Res.bind_ok, Res.bind_exc, Res.bind_bad, List.getElem?_cons_zero, List.getElem?_cons_succ, List.set_cons_zero, List.set_cons_succ, List.length_cons, List.length_nil, if_true, if_false, Bool.false_eq_true, Bool.not_true, Bool.not_false, cond_true, cond_false, small, Nat.reduceAdd, Nat.reduceLeDiff, decide_true, decide_false, reduceCtorEq, reduceIte, one_, m, c1, c2]
  simp
theorem pwords_ok : ∀ (n : Nat) (p : Pc) (st : Store), p.d < n → p.nm → p.t.length ≤ 100000 → f_piece_words n [p.w] st = .ok (wS p.t) st
  | 0, p, _, h, _, _ => by omega
  | n + 1, .sum b l, st, h, hn, hl => by
    simp only [Pc.d] at h
    simp only [Pc.t, List.length_cons, List.length_append, List.length_nil] at hl
    have hs := sep_len (cond b "+" "/") l
    have hF : ∀ p ∈ l, f_piece_words n [p.w] st = .ok (wS p.t) st := fun p hp => pwords_ok n p st (by have := dl_le hp; omega) (nml_of hp hn) (by have := restT_len (cond b "+" "/") hp; omega)
    obtain ⟨x', y', z', e⟩ := loop_pw (F := f_piece_words n) (st := st) b (a := (Pc.sum b l).w) l 0 [cond b "(" "["] none none none hF (by simp; omega)
    rw [if_pos rfl] at e
    have c2 := cat_ok (st := st) (a := ([cond b "(" "["] : List Str) ++ Pc.sepT (cond b "+" "/") l) (b := [cond b ")" "]"]) (by simp; omega)
    have e0 : iEnT (aCons (e2 kIxT (eVar 0) (eC (.int 1))) aNil) [some (.tup [.str (cond b "one" "beside"), .tup (Pc.wl l)]), some (.str (cond b "one" "beside")), some (wS [cond b "(" "["]), none, none, none] st = .ok (pairsW (Pc.wl l)) st := by
      unfold iEnT
      simp only [fin_rt, fin_nx, fin_exc, x_cons, thenS_nx, thenS_rt, thenS_ct, thenS_exc, x_nil, x_set, x_expr, x_ret, x_if, x_cont, x_asg, x_par, x_par3, x_for, x_loop0, outL_nx, outL_ct, outL_rt, x_raise, x_var, getV_some, x_c, x_e2, x_eT, asB_bl, x_and, x_or, x_not, x_vand, x_vor, x_vnot, x_ifE, x_chain, x_anil, x_acons, x_tup, x_lst, x_lstM, x_call, x_callD, x_CB, x_M0, x_M, x_neg, x_isi, x_iL, x_iT, asL_lst, asT_tup, x_gN, x_gT2, x_lc, x_lcEnd, x_lcEndM, x_lc0, nox_ok, x_yes, k_ii, k_eqS, k_eqI, k_lenL, k_lenT, k_tupL, k_tupT, k_lstT, k_lstS, k_int, at_0, at_1, at_2, at_3, toR_some, k_ixT, k_ixL, k_isNN, k_isNT, isS_S, x_dput, Res.bind_ok, Res.bind_exc, Res.bind_bad, List.getElem?_cons_zero, List.getElem?_cons_succ, List.set_cons_zero, List.set_cons_succ, List.length_cons, List.length_nil, if_true, if_false, Bool.false_eq_true, Bool.not_true, Bool.not_false, cond_true, cond_false, small, Nat.reduceAdd, Nat.reduceLeDiff, decide_true, decide_false, reduceCtorEq, reduceIte]
    have d0 : decide (("beside" : Str) = "one") = false := by decide +kernel
    rw [u_piece_words]
    cases b with
    | true =>
      have i1 : kInT false (.str "one") (.tup [.str "one", .str "beside"]) st = .ok (.bl true) st := in_ (l := ["one", "beside"]) (by decide +kernel)
      simp only [Pc.w, cond_true] at e e0 c2 ⊢
      simp only [b_piece_words, fin_rt, fin_nx, fin_exc, x_cons, thenS_nx, thenS_rt, thenS_ct, thenS_exc, x_nil, x_set, x_expr, x_ret, x_if, x_cont, x_asg, x_par, x_par3, x_for, x_loop0, outL_nx, outL_ct, outL_rt, x_raise, x_var, getV_some, x_c, x_e2, x_eT, asB_bl, x_and, x_or, x_not, x_vand, x_vor, x_vnot, x_ifE, x_chain, x_anil, x_acons, x_tup, x_lst, x_lstM, x_call, x_callD, x_CB, x_M0, x_M, x_neg, x_isi, x_iL, x_iT, asL_lst, asT_tup, x_gN, x_gT2, x_lc, x_lcEnd, x_lcEndM, x_lc0, nox_ok, x_yes, k_ii, k_eqS, k_eqI, k_lenL, k_lenT, k_tupL, k_tupT, k_lstT, k_lstS, k_int, at_0, at_1, at_2, at_3, toR_some, k_ixT, k_ixL, k_isNN, k_isNT, isS_S, x_dput, Res.bind_ok, Res.bind_exc, Res.bind_bad, List.getElem?_cons_zero, List.getElem?_cons_succ, List.set_cons_zero, List.set_cons_succ, List.length_cons, List.length_nil, if_true, if_false, Bool.false_eq_true, Bool.not_true, Bool.not_false, cond_true, cond_false, small, Nat.reduceAdd, Nat.reduceLeDiff, decide_true, decide_false, reduceCtorEq, reduceIte, i1, one_, e0, pairsW, e, c2]
      simp [Pc.t]
    | false =>
      have i1 : kInT false (.str "beside") (.tup [.str "one", .str "beside"]) st = .ok (.bl true) st := in_ (l := ["one", "beside"]) (by decide +kernel)
      simp only [Pc.w, cond_false] at e e0 c2 ⊢
      simp only [b_piece_words, fin_rt, fin_nx, fin_exc, x_cons, thenS_nx, thenS_rt, thenS_ct, thenS_exc, x_nil, x_set, x_expr, x_ret, x_if, x_cont, x_asg, x_par, x_par3, x_for, x_loop0, outL_nx, outL_ct, outL_rt, x_raise, x_var, getV_some, x_c, x_e2, x_eT, asB_bl, x_and, x_or, x_not, x_vand, x_vor, x_vnot, x_ifE, x_chain, x_anil, x_acons, x_tup, x_lst, x_lstM, x_call, x_callD, x_CB, x_M0, x_M, x_neg, x_isi, x_iL, x_iT, asL_lst, asT_tup, x_gN, x_gT2, x_lc, x_lcEnd, x_lcEndM, x_lc0, nox_ok, x_yes, k_ii, k_eqS, k_eqI, k_lenL, k_lenT, k_tupL, k_tupT, k_lstT, k_lstS, k_int, at_0, at_1, at_2, at_3, toR_some, k_ixT, k_ixL, k_isNN, k_isNT, isS_S, x_dput, Res.bind_ok, Res.bind_exc, Res.bind_bad, List.getElem?_cons_zero, List.getElem?_cons_succ, List.set_cons_zero, List.set_cons_succ, List.length_cons, List.length_nil, if_true, if_false, Bool.false_eq_true, Bool.not_true, Bool.not_false, cond_true, cond_false, small, Nat.reduceAdd, Nat.reduceLeDiff, decide_true, decide_false, reduceCtorEq, reduceIte, i1, d0, one_, e0, pairsW, e, c2]
      simp [Pc.t]
  | n + 1, .wait p, st, h, hn, hl => by
    simp only [Pc.d] at h
    simp only [Pc.t, List.length_cons] at hl
    have hp := pwords_ok n p st (by omega) hn (by omega)
    have c1 := cat_ok (st := st) (a := [("wait" : Str)]) (b := p.t) (by simp; omega)
    have i1 : kInT false (.str "wait") (.tup [.str "one", .str "beside"]) st = .ok (.bl false) st := in_ (l := ["one", "beside"]) (by decide +kernel)
    rw [u_piece_words]
    simp only [Pc.w, b_piece_words, fin_rt, fin_nx, fin_exc, x_cons, thenS_nx, thenS_rt, thenS_ct, thenS_exc, x_nil, x_set, x_expr, x_ret, x_if, x_cont, x_asg, x_par, x_par3, x_for, x_loop0, outL_nx, outL_ct, outL_rt, x_raise, x_var, getV_some, x_c, x_e2, x_eT, asB_bl, x_and, x_or, x_not, x_vand, x_vor, x_vnot, x_ifE, x_chain, x_anil, x_acons, x_tup, x_lst, x_lstM, x_call, x_callD, x_CB, x_M0, x_M, x_neg, x_isi, x_iL, x_iT, asL_lst, asT_tup, x_gN, x_gT2, x_lc, x_lcEnd, x_lcEndM, x_lc0, nox_ok, x_yes, k_ii, k_eqS, k_eqI, k_lenL, k_lenT, k_tupL, k_tupT, k_lstT, k_lstS, k_int, at_0, at_1, at_2, at_3, toR_some, k_ixT, k_ixL, k_isNN, k_isNT, isS_S, x_dput, Res.bind_ok, Res.bind_exc, Res.bind_bad, List.getElem?_cons_zero, List.getElem?_cons_succ, List.set_cons_zero, List.set_cons_succ, List.length_cons, List.length_nil, if_true, if_false, Bool.false_eq_true, Bool.not_true, Bool.not_false, cond_true, cond_false, small, Nat.reduceAdd, Nat.reduceLeDiff, decide_true, decide_false, reduceCtorEq, reduceIte, i1, one_, hp, c1]
    simp [Pc.t]
  | n + 1, .nw x p, st, h, hn, hl => by
    simp only [Pc.d] at h
    simp only [Pc.t, List.length_cons] at hl
    obtain ⟨hx, hn⟩ := hn
    have hp := pwords_ok n p st (by omega) hn (by omega)
    have c1 := cat_ok (st := st) (a := [("new" : Str), letter x]) (b := p.t) (by simp; omega)
    have i1 : kInT false (.str "new") (.tup [.str "one", .str "beside"]) st = .ok (.bl false) st := in_ (l := ["one", "beside"]) (by decide +kernel)
    have d3 : decide (("new" : Str) = "wait") = false := by decide +kernel
    rw [u_piece_words]
    simp only [Pc.w, nat, b_piece_words, fin_rt, fin_nx, fin_exc, x_cons, thenS_nx, thenS_rt, thenS_ct, thenS_exc, x_nil, x_set, x_expr, x_ret, x_if, x_cont, x_asg, x_par, x_par3, x_for, x_loop0, outL_nx, outL_ct, outL_rt, x_raise, x_var, getV_some, x_c, x_e2, x_eT, asB_bl, x_and, x_or, x_not, x_vand, x_vor, x_vnot, x_ifE, x_chain, x_anil, x_acons, x_tup, x_lst, x_lstM, x_call, x_callD, x_CB, x_M0, x_M, x_neg, x_isi, x_iL, x_iT, asL_lst, asT_tup, x_gN, x_gT2, x_lc, x_lcEnd, x_lcEndM, x_lc0, nox_ok, x_yes, k_ii, k_eqS, k_eqI, k_lenL, k_lenT, k_tupL, k_tupT, k_lstT, k_lstS, k_int, at_0, at_1, at_2, at_3, toR_some, k_ixT, k_ixL, k_isNN, k_isNT, isS_S, x_dput, Res.bind_ok, Res.bind_exc, Res.bind_bad, List.getElem?_cons_zero, List.getElem?_cons_succ, List.set_cons_zero, List.set_cons_succ, List.length_cons, List.length_nil, if_true, if_false, Bool.false_eq_true, Bool.not_true, Bool.not_false, cond_true, cond_false, small, Nat.reduceAdd, Nat.reduceLeDiff, decide_true, decide_false, reduceCtorEq, reduceIte, i1, d3, k_ixSl hx, two_, hp, c1]
    simp [Pc.t]
  | n + 1, .call k ns, st, h, hn, hl => by
    simp only [Pc.t, List.length_cons, List.length_append, List.length_map, List.length_nil] at hl
    obtain ⟨hk, hn⟩ := hn
    have i1 : kInT false (.str "call") (.tup [.str "one", .str "beside"]) st = .ok (.bl false) st := in_ (l := ["one", "beside"]) (by decide +kernel)
    have d3 : decide (("call" : Str) = "wait") = false := by decide +kernel
    have d4 : decide (("call" : Str) = "new") = false := by decide +kernel
    have c1 := cat_ok (st := st) (a := [("call" : Str), num k]) (b := "(" :: (ns.map letter ++ ([")"] : List Str))) (by simp; omega)
    rw [u_piece_words]
    simp only [Pc.w, nat, b_piece_words, fin_rt, fin_nx, fin_exc, x_cons, thenS_nx, thenS_rt, thenS_ct, thenS_exc, x_nil, x_set, x_expr, x_ret, x_if, x_cont, x_asg, x_par, x_par3, x_for, x_loop0, outL_nx, outL_ct, outL_rt, x_raise, x_var, getV_some, x_c, x_e2, x_eT, asB_bl, x_and, x_or, x_not, x_vand, x_vor, x_vnot, x_ifE, x_chain, x_anil, x_acons, x_tup, x_lst, x_lstM, x_call, x_callD, x_CB, x_M0, x_M, x_neg, x_isi, x_iL, x_iT, asL_lst, asT_tup, x_gN, x_gT2, x_lc, x_lcEnd, x_lcEndM, x_lc0, nox_ok, x_yes, k_ii, k_eqS, k_eqI, k_lenL, k_lenT, k_tupL, k_tupT, k_lstT, k_lstS, k_int, at_0, at_1, at_2, at_3, toR_some, k_ixT, k_ixL, k_isNN, k_isNT, isS_S, x_dput, Res.bind_ok, Res.bind_exc, Res.bind_bad, List.getElem?_cons_zero, List.getElem?_cons_succ, List.set_cons_zero, List.set_cons_succ, List.length_cons, List.length_nil, if_true, if_false, Bool.false_eq_true, Bool.not_true, Bool.not_false, cond_true, cond_false, small, Nat.reduceAdd, Nat.reduceLeDiff, decide_true, decide_false, reduceCtorEq, reduceIte, i1, d3, d4, k_str hk, two_, letters_of_ok hn (by omega), c1]
    simp [Pc.t]
  | n + 1, .pre hd x y p, st, h, hn, hl => by
    simp only [Pc.d] at h
    simp only [Pc.t, List.length_cons] at hl
    obtain ⟨hx, hy, hn⟩ := hn
    have hp := pwords_ok n p st (by omega) hn (by omega)
    have c1 := cat_ok (st := st) (a := [hd.w, letter x, letter y]) (b := p.t) (by simp; omega)
    have i1 : kInT false (.str hd.w) (.tup [.str "one", .str "beside"]) st = .ok (.bl false) st := in_ (l := ["one", "beside"]) (by cases hd <;> decide +kernel)
    have d3 : decide (hd.w = "wait") = false := by cases hd <;> decide +kernel
    have d4 : decide (hd.w = "new") = false := by cases hd <;> decide +kernel
    have d5 : decide (hd.w = "call") = false := by cases hd <;> decide +kernel
    rw [u_piece_words]
    simp only [Pc.w, nat, b_piece_words, fin_rt, fin_nx, fin_exc, x_cons, thenS_nx, thenS_rt, thenS_ct, thenS_exc, x_nil, x_set, x_expr, x_ret, x_if, x_cont, x_asg, x_par, x_par3, x_for, x_loop0, outL_nx, outL_ct, outL_rt, x_raise, x_var, getV_some, x_c, x_e2, x_eT, asB_bl, x_and, x_or, x_not, x_vand, x_vor, x_vnot, x_ifE, x_chain, x_anil, x_acons, x_tup, x_lst, x_lstM, x_call, x_callD, x_CB, x_M0, x_M, x_neg, x_isi, x_iL, x_iT, asL_lst, asT_tup, x_gN, x_gT2, x_lc, x_lcEnd, x_lcEndM, x_lc0, nox_ok, x_yes, k_ii, k_eqS, k_eqI, k_lenL, k_lenT, k_tupL, k_tupT, k_lstT, k_lstS, k_int, at_0, at_1, at_2, at_3, toR_some, k_ixT, k_ixL, k_isNN, k_isNT, isS_S, x_dput, Res.bind_ok, Res.bind_exc, Res.bind_bad, List.getElem?_cons_zero, List.getElem?_cons_succ, List.set_cons_zero, List.set_cons_succ, List.length_cons, List.length_nil, if_true, if_false, Bool.false_eq_true, Bool.not_true, Bool.not_false, cond_true, cond_false, small, Nat.reduceAdd, Nat.reduceLeDiff, decide_true, decide_false, reduceCtorEq, reduceIte, i1, d3, d4, d5, k_ixSl hx, k_ixSl hy, three_, hp, c1]
    simp [Pc.t]
end K85
end
section
set_option Elab.async false
set_option linter.all false
set_option maxRecDepth 100000
set_option maxHeartbeats 1000000
/-! M4: reading numbers, letters, heads. -/
namespace K85
open PySem Vl
/-- l stands in ws from i on -/
def Has (ws : List Str) (i : Nat) (l : List Str) : Prop := l <+: ws.drop i
theorem Has.head {ws : List Str} {i : Nat} {x : Str} {l : List Str} (h : Has ws i (x :: l)) : ws[i]? = some x := by
  obtain ⟨r, e⟩ := h
  have : (ws.drop i)[0]? = some x := by rw [← e]; rfl
  simpa using this
theorem Has.tail {ws : List Str} {i : Nat} {x : Str} {l : List Str} (h : Has ws i (x :: l)) : Has ws (i + 1) l := by
  obtain ⟨r, e⟩ := h
  refine ⟨r, ?_⟩
  have : (ws.drop i).drop 1 = ws.drop (i + 1) := by rw [List.drop_drop]
  rw [← this, ← e]
  rfl
theorem Has.left {ws : List Str} {i : Nat} {a b : List Str} (h : Has ws i (a ++ b)) : Has ws i a := by
  obtain ⟨r, e⟩ := h
  exact ⟨b ++ r, by rw [← e, List.append_assoc]⟩
theorem Has.right {ws : List Str} {i : Nat} {a b : List Str} (h : Has ws i (a ++ b)) : Has ws (i + a.length) b := by
  obtain ⟨r, e⟩ := h
  refine ⟨r, ?_⟩
  rw [← List.drop_drop, ← e, List.append_assoc]
  simp
theorem num_ok {st : Store} : ∀ k : Nat, k < 10 → f_is_number [.str (num k), .int 2] st = .ok (.bl true) st
  | 0, _ => rfl
  | 1, _ => rfl
  | 2, _ => rfl
  | 3, _ => rfl
  | 4, _ => rfl
  | 5, _ => rfl
  | 6, _ => rfl
  | 7, _ => rfl
  | 8, _ => rfl
  | 9, _ => rfl
  | n + 10, h => by omega
theorem num_txt : ∀ k : Nat, k < 10 → PySem.intText? (num k) = some (k : Int) ∧ (num k).length ≤ 640 := by decide +kernel
theorem num_int {st : Store} (k : Nat) (h : k < 10) : kIntS [.str (num k)] st = .ok (nat k) st := by
  obtain ⟨h1, h2⟩ := num_txt k h
  show (if (num k).length ≤ 640 then (match PySem.intText? (num k) with
    | some n => Res.ok (W.int n) st
    | none => .bad) else .bad) = _
  rw [if_pos h2, h1]
theorem number_at_ok {ws : List Str} {i k : Nat} {l : W} {st : Store} (h : ws[i]? = some (num k)) (h4 : i < 400) (hk : k < 10) : f_number_at [wS ws, .int i, l] st = .ok (.tup [nat k, .int (i + 1 : Nat)]) st := by
  rw [u_number_at]
  simp only [b_number_at, fin_rt, fin_nx, fin_exc, x_cons, thenS_nx, thenS_rt, thenS_ct, thenS_exc, x_nil, x_set, x_expr, x_ret, x_if, x_cont, x_asg, x_par, x_par3, x_for, x_loop0, outL_nx, outL_ct, outL_rt, x_raise, x_var, getV_some, x_c, x_e2, x_eT, asB_bl, x_and, x_or, x_not, x_vand, x_vor, x_vnot, x_ifE, x_chain, x_anil, x_acons, x_tup, x_lst, x_lstM, x_call, x_callD, x_CB, x_M0, x_M, x_neg, x_isi, x_iL, x_iT, asL_lst, asT_tup, x_gN, x_gT2, x_lc, x_lcEnd, x_lcEndM, x_lc0, nox_ok, x_yes, k_ii, k_eqS, k_eqI, k_lenL, k_lenT, k_tupL, k_tupT, k_lstT, k_lstS, k_int, at_0, at_1, at_2, at_3, toR_some, k_ixT, k_ixL, k_isNN, k_isNT, isS_S, x_dput, Res.bind_ok, Res.bind_exc, Res.bind_bad, List.getElem?_cons_zero, List.getElem?_cons_succ, List.set_cons_zero, List.set_cons_succ, List.length_cons, List.length_nil, if_true, if_false, Bool.false_eq_true, Bool.not_true, Bool.not_false, cond_true, cond_false, small, Nat.reduceAdd, Nat.reduceLeDiff, decide_true, decide_false, reduceCtorEq, reduceIte, word_at_ok h h4, num_ok k hk, num_int k hk, succI]
theorem top_get {st : Store} {m : MO} : (st ++ [m])[st.length]? = some m := by simp
theorem top_set {st : Store} {m m' : MO} : (st ++ [m]).set st.length m' = st ++ [m'] := by simp
theorem letter_ne {k : Nat} (h : k < 10) : decide (letter k = ")") = false := by
  revert k
  decide +kernel
theorem letters_loop {ws : List Str} {l w1 : W} {st : Store} : ∀ (ns done : List Nat) (n i : Nat) (y : Option W), ns.length < n → (∀ k ∈ ns, k < 10) → Has ws i (ns.map letter ++ ([")"] : List Str)) → i + ns.length < 400 → done.length + ns.length ≤ 1000 →
    ∃ y', sWhile n (eT (e2 (kEq true) (eCall 3 f_word_at (aCons (eVar 0) (aCons (eVar 3) (aCons (eVar 2) aNil)))) (eC (.str ")")))) (sCons (sAsg (eCall 3 f_letter_at (aCons (eVar 0) (aCons (eVar 3) (aCons (eVar 2) aNil)))) (gT 2 (gsCons (gN 5) (gsCons (gN 3) gsNil)))) (sExpr (eM isL kAppend (eVar 4) (aCons (eVar 5) aNil))))
      [some (wS ws), some w1, some l, some (.int i), some (.obj st.length), y] (st ++ [.L (done.map nat)]) = .ok (.nx [some (wS ws), some w1, some l, some (.int (i + ns.length : Nat)), some (.obj st.length), y']) (st ++ [.L ((done ++ ns).map nat)])
  | [], done, n + 1, i, y, _, _, hw, hi, _ => by
    refine ⟨y, ?_⟩
    have h0 := Has.head (x := ")") hw
    have d : decide ((")" : Str) = ")") = true := by decide +kernel
    rw [x_while]
    simp only [fin_rt, fin_nx, fin_exc, x_cons, thenS_nx, thenS_rt, thenS_ct, thenS_exc, x_nil, x_set, x_expr, x_ret, x_if, x_cont, x_asg, x_par, x_par3, x_for, x_loop0, outL_nx, outL_ct, outL_rt, x_raise, x_var, getV_some, x_c, x_e2, x_eT, asB_bl, x_and, x_or, x_not, x_vand, x_vor, x_vnot, x_ifE, x_chain, x_anil, x_acons, x_tup, x_lst, x_lstM, x_call, x_callD, x_CB, x_M0, x_M, x_neg, x_isi, x_iL, x_iT, asL_lst, asT_tup, x_gN, x_gT2, x_lc, x_lcEnd, x_lcEndM, x_lc0, nox_ok, x_yes, k_ii, k_eqS, k_eqI, k_lenL, k_lenT, k_tupL, k_tupT, k_lstT, k_lstS, k_int, at_0, at_1, at_2, at_3, toR_some, k_ixT, k_ixL, k_isNN, k_isNT, isS_S, x_dput, Res.bind_ok, Res.bind_exc, Res.bind_bad, List.getElem?_cons_zero, List.getElem?_cons_succ, List.set_cons_zero, List.set_cons_succ, List.length_cons, List.length_nil, if_true, if_false, Bool.false_eq_true, Bool.not_true, Bool.not_false, cond_true, cond_false, small, Nat.reduceAdd, Nat.reduceLeDiff, decide_true, decide_false, reduceCtorEq, reduceIte, word_at_ok h0 (by simpa using hi), d, List.append_nil, Nat.add_zero]
  | k :: ns, done, n + 1, i, y, hn, hk, hw, hi, hd => by
    simp only [List.length_cons] at hn hi hd
    have hk0 := hk k (List.mem_cons_self ..)
    rw [List.map_cons, List.cons_append] at hw
    have h0 := hw.head
    obtain ⟨y', e⟩ := letters_loop (w1 := w1) (l := l) (st := st) ns (done ++ [k]) n (i + 1) (some (nat k)) (by omega) (fun z hz => hk z (List.mem_cons_of_mem _ hz)) hw.tail (by omega) (by simp; omega)
    refine ⟨y', ?_⟩
    have ap : kAppend (.obj st.length) [nat k] (st ++ [.L (done.map nat)]) = .ok .non (st ++ [.L ((done ++ [k]).map nat)]) := by
      rw [k_app top_get (by simp; omega), top_set, List.map_append]
      rfl
    have il : isL (.obj st.length) (st ++ [.L (done.map nat)]) = true := isL_O top_get
    rw [x_while]
    simp only [fin_rt, fin_nx, fin_exc, x_cons, thenS_nx, thenS_rt, thenS_ct, thenS_exc, x_nil, x_set, x_expr, x_ret, x_if, x_cont, x_asg, x_par, x_par3, x_for, x_loop0, outL_nx, outL_ct, outL_rt, x_raise, x_var, getV_some, x_c, x_e2, x_eT, asB_bl, x_and, x_or, x_not, x_vand, x_vor, x_vnot, x_ifE, x_chain, x_anil, x_acons, x_tup, x_lst, x_lstM, x_call, x_callD, x_CB, x_M0, x_M, x_neg, x_isi, x_iL, x_iT, asL_lst, asT_tup, x_gN, x_gT2, x_lc, x_lcEnd, x_lcEndM, x_lc0, nox_ok, x_yes, k_ii, k_eqS, k_eqI, k_lenL, k_lenT, k_tupL, k_tupT, k_lstT, k_lstS, k_int, at_0, at_1, at_2, at_3, toR_some, k_ixT, k_ixL, k_isNN, k_isNT, isS_S, x_dput, Res.bind_ok, Res.bind_exc, Res.bind_bad, List.getElem?_cons_zero, List.getElem?_cons_succ, List.set_cons_zero, List.set_cons_succ, List.length_cons, List.length_nil, if_true, if_false, Bool.false_eq_true, Bool.not_true, Bool.not_false, cond_true, cond_false, small, Nat.reduceAdd, Nat.reduceLeDiff, decide_true, decide_false, reduceCtorEq, reduceIte, word_at_ok h0 (by omega), letter_ne hk0, letter_at_ok h0 (by omega) hk0, il, ap]
    simp only [nat] at e
    rw [e]
    simp only [List.append_assoc, List.singleton_append, List.length_cons]
    rw [show i + 1 + ns.length = i + (ns.length + 1) by omega]
theorem letters_at_ok {ws : List Str} {i : Nat} {l : W} {st : Store} {ns : List Nat} (hw : Has ws i ("(" :: (ns.map letter ++ ([")"] : List Str)))) (hi : i + ns.length + 1 < 400) (hk : ∀ k ∈ ns, k < 10) :
    f_letters_at [wS ws, .int i, l] st = .ok (.tup [.tup (ns.map nat), .int (i + ns.length + 2 : Nat)]) (st ++ [.L (ns.map nat)]) := by
  obtain ⟨y', e⟩ := letters_loop (w1 := .int i) (l := l) (st := st) ns [] 1000 (i + 1) none (by omega) hk hw.tail (by omega) (by simp; omega)
  have tp : kTuple [.obj st.length] (st ++ [.L (ns.map nat)]) = .ok (.tup (ns.map nat)) (st ++ [.L (ns.map nat)]) := k_tupO top_get
  simp only [List.nil_append, List.map_nil] at e
  rw [u_letters_at]
  simp only [b_letters_at, wt_letters_at, wb_letters_at, fin_rt, fin_nx, fin_exc, x_cons, thenS_nx, thenS_rt, thenS_ct, thenS_exc, x_nil, x_set, x_expr, x_ret, x_if, x_cont, x_asg, x_par, x_par3, x_for, x_loop0, outL_nx, outL_ct, outL_rt, x_raise, x_var, getV_some, x_c, x_e2, x_eT, asB_bl, x_and, x_or, x_not, x_vand, x_vor, x_vnot, x_ifE, x_chain, x_anil, x_acons, x_tup, x_lst, x_lstM, x_call, x_callD, x_CB, x_M0, x_M, x_neg, x_isi, x_iL, x_iT, asL_lst, asT_tup, x_gN, x_gT2, x_lc, x_lcEnd, x_lcEndM, x_lc0, nox_ok, x_yes, k_ii, k_eqS, k_eqI, k_lenL, k_lenT, k_tupL, k_tupT, k_lstT, k_lstS, k_int, at_0, at_1, at_2, at_3, toR_some, k_ixT, k_ixL, k_isNN, k_isNT, isS_S, x_dput, Res.bind_ok, Res.bind_exc, Res.bind_bad, List.getElem?_cons_zero, List.getElem?_cons_succ, List.set_cons_zero, List.set_cons_succ, List.length_cons, List.length_nil, if_true, if_false, Bool.false_eq_true, Bool.not_true, Bool.not_false, cond_true, cond_false, small, Nat.reduceAdd, Nat.reduceLeDiff, decide_true, decide_false, reduceCtorEq, reduceIte, need_word_ok hw.head (by omega), e, tp, succI]
  rw [show i + 1 + ns.length + 1 = i + ns.length + 2 by omega]
/-! ### heads -/
theorem headed_wait {ws : List Str} {i : Nat} {l : W} {st : Store} : f_headed [wS ws, .int i, l, .str "wait"] st = .ok (.tup [.tup [.str "wait"], .int (i + 1 : Nat)]) st := by
  have d1 : decide (("wait" : Str) = "wait") = true := by decide +kernel
  rw [u_headed]
  simp only [b_headed, fin_rt, fin_nx, fin_exc, x_cons, thenS_nx, thenS_rt, thenS_ct, thenS_exc, x_nil, x_set, x_expr, x_ret, x_if, x_cont, x_asg, x_par, x_par3, x_for, x_loop0, outL_nx, outL_ct, outL_rt, x_raise, x_var, getV_some, x_c, x_e2, x_eT, asB_bl, x_and, x_or, x_not, x_vand, x_vor, x_vnot, x_ifE, x_chain, x_anil, x_acons, x_tup, x_lst, x_lstM, x_call, x_callD, x_CB, x_M0, x_M, x_neg, x_isi, x_iL, x_iT, asL_lst, asT_tup, x_gN, x_gT2, x_lc, x_lcEnd, x_lcEndM, x_lc0, nox_ok, x_yes, k_ii, k_eqS, k_eqI, k_lenL, k_lenT, k_tupL, k_tupT, k_lstT, k_lstS, k_int, at_0, at_1, at_2, at_3, toR_some, k_ixT, k_ixL, k_isNN, k_isNT, isS_S, x_dput, Res.bind_ok, Res.bind_exc, Res.bind_bad, List.getElem?_cons_zero, List.getElem?_cons_succ, List.set_cons_zero, List.set_cons_succ, List.length_cons, List.length_nil, if_true, if_false, Bool.false_eq_true, Bool.not_true, Bool.not_false, cond_true, cond_false, small, Nat.reduceAdd, Nat.reduceLeDiff, decide_true, decide_false, reduceCtorEq, reduceIte, d1, succI]
theorem headed_call {ws : List Str} {i k : Nat} {ns : List Nat} {l : W} {st : Store} (hw : Has ws (i + 1) (num k :: "(" :: (ns.map letter ++ ([")"] : List Str)))) (hi : i + ns.length + 4 < 400) (hk : k < 10) (hn : ∀ n ∈ ns, n < 10) :
    f_headed [wS ws, .int i, l, .str "call"] st = .ok (.tup [.tup [.str "call", nat k, .tup (ns.map nat)], .int (i + ns.length + 4 : Nat)]) (st ++ [.L (ns.map nat)]) := by
  have d1 : decide (("call" : Str) = "wait") = false := by decide +kernel
  have d2 : decide (("call" : Str) = "call") = true := by decide +kernel
  have e2 := letters_at_ok (l := l) (st := st) hw.tail (by omega) hn
  rw [u_headed]
  simp only [b_headed, fin_rt, fin_nx, fin_exc, x_cons, thenS_nx, thenS_rt, thenS_ct, thenS_exc, x_nil, x_set, x_expr, x_ret, x_if, x_cont, x_asg, x_par, x_par3, x_for, x_loop0, outL_nx, outL_ct, outL_rt, x_raise, x_var, getV_some, x_c, x_e2, x_eT, asB_bl, x_and, x_or, x_not, x_vand, x_vor, x_vnot, x_ifE, x_chain, x_anil, x_acons, x_tup, x_lst, x_lstM, x_call, x_callD, x_CB, x_M0, x_M, x_neg, x_isi, x_iL, x_iT, asL_lst, asT_tup, x_gN, x_gT2, x_lc, x_lcEnd, x_lcEndM, x_lc0, nox_ok, x_yes, k_ii, k_eqS, k_eqI, k_lenL, k_lenT, k_tupL, k_tupT, k_lstT, k_lstS, k_int, at_0, at_1, at_2, at_3, toR_some, k_ixT, k_ixL, k_isNN, k_isNT, isS_S, x_dput, Res.bind_ok, Res.bind_exc, Res.bind_bad, List.getElem?_cons_zero, List.getElem?_cons_succ, List.set_cons_zero, List.set_cons_succ, List.length_cons, List.length_nil, if_true, if_false, Bool.false_eq_true, Bool.not_true, Bool.not_false, cond_true, cond_false, small, Nat.reduceAdd, Nat.reduceLeDiff, decide_true, decide_false, reduceCtorEq, reduceIte, d1, d2, succI, number_at_ok hw.head (by omega) hk, e2]
  rw [show i + 1 + 1 + ns.length + 2 = i + ns.length + 4 by omega]
theorem headed_new {ws : List Str} {i x : Nat} {l : W} {st : Store} (hw : ws[i + 1]? = some (letter x)) (hi : i + 1 < 400) (hx : x < 10) : f_headed [wS ws, .int i, l, .str "new"] st = .ok (.tup [.tup [.str "new", nat x], .int (i + 2 : Nat)]) st := by
  have d1 : decide (("new" : Str) = "wait") = false := by decide +kernel
  have d2 : decide (("new" : Str) = "call") = false := by decide +kernel
  have d3 : decide (("new" : Str) = "new") = true := by decide +kernel
  rw [u_headed]
  simp only [b_headed, fin_rt, fin_nx, fin_exc, x_cons, thenS_nx, thenS_rt, thenS_ct, thenS_exc, x_nil, x_set, x_expr, x_ret, x_if, x_cont, x_asg, x_par, x_par3, x_for, x_loop0, outL_nx, outL_ct, outL_rt, x_raise, x_var, getV_some, x_c, x_e2, x_eT, asB_bl, x_and, x_or, x_not, x_vand, x_vor, x_vnot, x_ifE, x_chain, x_anil, x_acons, x_tup, x_lst, x_lstM, x_call, x_callD, x_CB, x_M0, x_M, x_neg, x_isi, x_iL, x_iT, asL_lst, asT_tup, x_gN, x_gT2, x_lc, x_lcEnd, x_lcEndM, x_lc0, nox_ok, x_yes, k_ii, k_eqS, k_eqI, k_lenL, k_lenT, k_tupL, k_tupT, k_lstT, k_lstS, k_int, at_0, at_1, at_2, at_3, toR_some, k_ixT, k_ixL, k_isNN, k_isNT, isS_S, x_dput, Res.bind_ok, Res.bind_exc, Res.bind_bad, List.getElem?_cons_zero, List.getElem?_cons_succ, List.set_cons_zero, List.set_cons_succ, List.length_cons, List.length_nil, if_true, if_false, Bool.false_eq_true, Bool.not_true, Bool.not_false, cond_true, cond_false, small, Nat.reduceAdd, Nat.reduceLeDiff, decide_true, decide_false, reduceCtorEq, reduceIte, d1, d2, d3, succI, letter_at_ok hw (by omega) hx]
theorem headed_pre {ws : List Str} {i x y : Nat} {l : W} {st : Store} {hd : Hd} (h1 : ws[i + 1]? = some (letter x)) (h2 : ws[i + 2]? = some (letter y)) (hi : i + 2 < 400) (hx : x < 10) (hy : y < 10) :
    f_headed [wS ws, .int i, l, .str hd.w] st = .ok (.tup [.tup [.str hd.w, nat x, nat y], .int (i + 3 : Nat)]) st := by
  have d1 : decide (hd.w = "wait") = false := by cases hd <;> decide +kernel
  have d2 : decide (hd.w = "call") = false := by cases hd <;> decide +kernel
  have d3 : decide (hd.w = "new") = false := by cases hd <;> decide +kernel
  rw [u_headed]
  simp only [b_headed, fin_rt, fin_nx, fin_exc, x_cons, thenS_nx, thenS_rt, thenS_ct, thenS_exc, x_nil, x_set, x_expr, x_ret, x_if, x_cont, x_asg, x_par, x_par3, x_for, x_loop0, outL_nx, outL_ct, outL_rt, x_raise, x_var, getV_some, x_c, x_e2, x_eT, asB_bl, x_and, x_or, x_not, x_vand, x_vor, x_vnot, x_ifE, x_chain, x_anil, x_acons, x_tup, x_lst, x_lstM, x_call, x_callD, x_CB, x_M0, x_M, x_neg, x_isi, x_iL, x_iT, asL_lst, asT_tup, x_gN, x_gT2, x_lc, x_lcEnd, x_lcEndM, x_lc0, nox_ok, x_yes, k_ii, k_eqS, k_eqI, k_lenL, k_lenT, k_tupL, k_tupT, k_lstT, k_lstS, k_int, at_0, at_1, at_2, at_3, toR_some, k_ixT, k_ixL, k_isNN, k_isNT, isS_S, x_dput, Res.bind_ok, Res.bind_exc, Res.bind_bad, List.getElem?_cons_zero, List.getElem?_cons_succ, List.set_cons_zero, List.set_cons_succ, List.length_cons, List.length_nil, if_true, if_false, Bool.false_eq_true, Bool.not_true, Bool.not_false, cond_true, cond_false, small, Nat.reduceAdd, Nat.reduceLeDiff, decide_true, decide_false, reduceCtorEq, reduceIte, d1, d2, d3, succI, letter_at_ok h1 (by omega) hx, letter_at_ok (i := i + 1 + 1) h2 (by omega) hy]
/-! ### may_begin -/
theorem mb_br {x : Str} {b : W} {st : Store} (h : chk false x ["send", "take", "wait", "alike", "unlike"] true = true) : f_may_begin [.str x, b] st = .ok (.bl true) st := by
  rw [u_may_begin]
  simp only [b_may_begin, fin_rt, fin_nx, fin_exc, x_cons, thenS_nx, thenS_rt, thenS_ct, thenS_exc, x_nil, x_set, x_expr, x_ret, x_if, x_cont, x_asg, x_par, x_par3, x_for, x_loop0, outL_nx, outL_ct, outL_rt, x_raise, x_var, getV_some, x_c, x_e2, x_eT, asB_bl, x_and, x_or, x_not, x_vand, x_vor, x_vnot, x_ifE, x_chain, x_anil, x_acons, x_tup, x_lst, x_lstM, x_call, x_callD, x_CB, x_M0, x_M, x_neg, x_isi, x_iL, x_iT, asL_lst, asT_tup, x_gN, x_gT2, x_lc, x_lcEnd, x_lcEndM, x_lc0, nox_ok, x_yes, k_ii, k_eqS, k_eqI, k_lenL, k_lenT, k_tupL, k_tupT, k_lstT, k_lstS, k_int, at_0, at_1, at_2, at_3, toR_some, k_ixT, k_ixL, k_isNN, k_isNT, isS_S, x_dput, Res.bind_ok, Res.bind_exc, Res.bind_bad, List.getElem?_cons_zero, List.getElem?_cons_succ, List.set_cons_zero, List.set_cons_succ, List.length_cons, List.length_nil, if_true, if_false, Bool.false_eq_true, Bool.not_true, Bool.not_false, cond_true, cond_false, small, Nat.reduceAdd, Nat.reduceLeDiff, decide_true, decide_false, reduceCtorEq, reduceIte, in_ h]
theorem mb_ot {x : Str} {st : Store} (h : chk false x ["send", "take", "wait", "alike", "unlike"] false = true) (h2 : chk false x ["(", "[", "new", "call"] true = true) : f_may_begin [.str x, .bl false] st = .ok (.bl true) st := by
  have i2 : kInT false (.str x) (.tup [.str "(", .str "[", .str "new", .str "call"]) st = .ok (.bl true) st := in_ (l := ["(", "[", "new", "call"]) h2
  rw [u_may_begin]
  simp only [b_may_begin, fin_rt, fin_nx, fin_exc, x_cons, thenS_nx, thenS_rt, thenS_ct, thenS_exc, x_nil, x_set, x_expr, x_ret, x_if, x_cont, x_asg, x_par, x_par3, x_for, x_loop0, outL_nx, outL_ct, outL_rt, x_raise, x_var, getV_some, x_c, x_e2, x_eT, asB_bl, x_and, x_or, x_not, x_vand, x_vor, x_vnot, x_ifE, x_chain, x_anil, x_acons, x_tup, x_lst, x_lstM, x_call, x_callD, x_CB, x_M0, x_M, x_neg, x_isi, x_iL, x_iT, asL_lst, asT_tup, x_gN, x_gT2, x_lc, x_lcEnd, x_lcEndM, x_lc0, nox_ok, x_yes, k_ii, k_eqS, k_eqI, k_lenL, k_lenT, k_tupL, k_tupT, k_lstT, k_lstS, k_int, at_0, at_1, at_2, at_3, toR_some, k_ixT, k_ixL, k_isNN, k_isNT, isS_S, x_dput, Res.bind_ok, Res.bind_exc, Res.bind_bad, List.getElem?_cons_zero, List.getElem?_cons_succ, List.set_cons_zero, List.set_cons_succ, List.length_cons, List.length_nil, if_true, if_false, Bool.false_eq_true, Bool.not_true, Bool.not_false, cond_true, cond_false, small, Nat.reduceAdd, Nat.reduceLeDiff, decide_true, decide_false, reduceCtorEq, reduceIte, in_ h, i2]
end K85
end
section
set_option Elab.async false
set_option linter.all false
set_option maxRecDepth 100000
set_option maxHeartbeats 1000000
/-! M5: frames; closing. -/
namespace K85
open PySem Vl
inductive Fr where
  | br (b : Bool) (held : List Pc) | wait | nw (x : Nat) | pre (h : Hd) (x y : Nat)
def Fr.on : Fr → Pc → Pc
  | .br b held, p => .sum b (held ++ [p])
  | .wait, p => .wait p
  | .nw x, p => .nw x p
  | .pre h x y, p => .pre h x y p
def Fr.hd : Fr → List W
  | .br _ _ => []
  | .wait => [.str "wait"]
  | .nw x => [.str "new", nat x]
  | .pre h x y => [.str h.w, nat x, nat y]
def Fr.isBr : Fr → Bool
  | .br _ _ => true
  | _ => false
/-- a frame's list; h: where what it holds stands -/
def Fr.w : Fr → Nat → W
  | .br b _, h => .lst [.str (cond b "(" "["), .obj h]
  | f, _ => .lst [.tup f.hd, .non]
def held (st : Store) (h : Nat) : Fr → Prop
  | .br _ ps => st[h]? = some (.L (Pc.wl ps))
  | _ => True
/-- frames, the top one first; each holds below the next bound, above the frames' own list -/
def FS (st : Store) (fi : Nat) : Nat → List Fr → List W → Prop
  | _, [], [] => True
  | bnd, f :: F, w :: ws => ∃ h, h ≤ bnd ∧ (f.isBr = true → h < bnd) ∧ fi < h ∧ w = f.w h ∧ held st h f ∧ FS st fi h F ws
  | _, _, _ => False
theorem FS.keep {st st' : Store} {fi : Nat} : ∀ {bnd : Nat} {F : List Fr} {ws : List W}, FS st fi bnd F ws → (∀ h, h < bnd → fi < h → st'[h]? = st[h]?) → FS st' fi bnd F ws
  | _, [], [], _, _ => True.intro
  | bnd, f :: F, w :: ws, ⟨h, h0, h1, h2, h3, h4, h5⟩, k => ⟨h, h0, h1, h2, h3, by
      cases f with
      | br b ps => exact (k h (h1 rfl) h2).trans h4
      | _ => trivial, h5.keep fun j hj hf => k j (by omega) hf⟩
  | _, [], _ :: _, hf, _ => hf
  | _, _ :: _, [], hf, _ => hf
theorem FS.up {st : Store} {fi : Nat} : ∀ {bnd bnd' : Nat} {F : List Fr} {ws : List W}, FS st fi bnd F ws → bnd ≤ bnd' → FS st fi bnd' F ws
  | _, _, [], [], _, _ => True.intro
  | bnd, bnd', f :: F, w :: ws, ⟨h, h0, h1, h2⟩, k => ⟨h, by omega, fun e => by have := h1 e; omega, h2⟩
  | _, _, [], _ :: _, hf, _ => hf
  | _, _, _ :: _, [], hf, _ => hf
theorem FS.len {st : Store} {fi : Nat} : ∀ {bnd : Nat} {F : List Fr} {ws : List W}, FS st fi bnd F ws → F.length = ws.length
  | _, [], [], _ => rfl
  | _, f :: F, w :: ws, ⟨_, _, _, _, _, _, h⟩ => congrArg (· + 1) h.len
  | _, [], _ :: _, hf => hf.elim
  | _, _ :: _, [], hf => hf.elim
/-- what stood there stays, what came is no table -/
def Grew (s0 st : Store) : Prop := ∃ ex, st = s0 ++ ex ∧ ex.all (fun m => !m.isTab) = true
theorem Grew.refl {s : Store} : Grew s s := ⟨[], by simp, rfl⟩
theorem Grew.push {s0 st : Store} {m : MO} (h : Grew s0 st) (hm : m.isTab = false) : Grew s0 (st ++ [m]) := by
  obtain ⟨ex, rfl, h2⟩ := h
  exact ⟨ex ++ [m], by simp, by rw [List.all_append, h2]; simp [hm]⟩
theorem Grew.len {s0 st : Store} (h : Grew s0 st) : s0.length ≤ st.length := by
  obtain ⟨ex, rfl, _⟩ := h
  simp
theorem Grew.set {s0 st : Store} {k : Nat} {m : MO} (h : Grew s0 st) (hk : s0.length ≤ k) (hm : m.isTab = false) : Grew s0 (st.set k m) := by
  obtain ⟨ex, rfl, h2⟩ := h
  refine ⟨ex.set (k - s0.length) m, by rw [List.set_append, if_neg (by omega)], ?_⟩
  rw [List.all_eq_true] at h2 ⊢
  intro x hx
  rcases List.mem_or_eq_of_mem_set hx with h | h
  · exact h2 x h
  · subst h; simp [hm]
theorem Grew.trans {a b c : Store} (h : Grew a b) (h' : Grew b c) : Grew a c := by
  obtain ⟨x, rfl, h1⟩ := h
  obtain ⟨y, rfl, h2⟩ := h'
  exact ⟨x ++ y, by simp, by rw [List.all_append, h1, h2]; rfl⟩
theorem Grew.get {a b : Store} (h : Grew a b) {i : Nat} {m : MO} (e : a[i]? = some m) : b[i]? = some m := by
  obtain ⟨x, rfl, _⟩ := h
  rw [List.getElem?_append_left (List.getElem?_eq_some_iff.mp e).1]
  exact e
theorem wl_append : ∀ a b : List Pc, Pc.wl (a ++ b) = Pc.wl a ++ Pc.wl b
  | [], b => rfl
  | p :: a, b => by simp [Pc.wl, wl_append a b]
theorem on_w (f : Fr) (h : f.isBr = false) (p : Pc) : (f.on p).w = .tup (f.hd ++ [p.w]) := by
  cases f <;> first | rfl | cases h
theorem hd_len (f : Fr) : f.hd.length ≤ 3 := by cases f <;> simp [Fr.hd]
/-- closing: a piece is handed down the frames -/
inductive Cl (ws : List Str) : List Fr → Pc → Nat → List Fr → Option Pc → Nat → Prop
  | done {p : Pc} {i : Nat} : Cl ws [] p i [] (some p) i
  | down {f : Fr} {F F' : List Fr} {p : Pc} {o : Option Pc} {i j : Nat} (h : f.isBr = false) (k : Cl ws F (f.on p) i F' o j) : Cl ws (f :: F) p i F' o j
  | more {b : Bool} {ps : List Pc} {F : List Fr} {p : Pc} {i : Nat} (hpl : (Pc.wl ps).length ≤ 1000) (h : ws[i]? = some (cond b ("+" : Str) "/")) : Cl ws (.br b ps :: F) p i (.br b (ps ++ [p]) :: F) none (i + 1)
  | end_ {b : Bool} {ps : List Pc} {F F' : List Fr} {p : Pc} {o : Option Pc} {i j : Nat} (hpl : (Pc.wl ps).length ≤ 1000) (h : ws[i]? = some (cond b (")" : Str) "]")) (k : Cl ws F (.sum b (ps ++ [p])) (i + 1) F' o j) : Cl ws (.br b ps :: F) p i F' o j
theorem hle {ws : List Str} {F F' : List Fr} {p : Pc} {o : Option Pc} {i j : Nat} (hc : Cl ws F p i F' o j) : i ≤ j := by
  induction hc with
  | done => exact Nat.le_refl _
  | down _ _ ih => exact ih
  | more _ _ => omega
  | end_ _ _ _ ih => omega
def optW : Option Pc → W
  | some p => p.w
  | none => .non
/-- the data of a head -/
def Fr.dd : Fr → List PyData
  | .br _ _ => []
  | .wait => [.str "wait"]
  | .nw x => [.str "new", .int x]
  | .pre h x y => [.str h.w, .int x, .int y]
theorem hd_dat : ∀ f : Fr, dats f.hd = some f.dd
  | .br _ _ => by simp [Fr.hd, Fr.dd, dats]
  | .wait => by simp [Fr.hd, Fr.dd, dats, dat]
  | .nw x => by simp [Fr.hd, Fr.dd, dats, dat]
  | .pre h x y => by simp [Fr.hd, Fr.dd, dats, dat]
theorem hd_shaped : ∀ f : Fr, SeqAt.shaped (.tuple f.dd) = true
  | .br _ _ => by simp [Fr.dd, SeqAt.shaped, PyData.canLay0, PyData.canLayAll0, PyData.depth, PyData.depthAll]
  | .wait => by
    have h : ok1 "wait" = true := by decide +kernel
    unfold ok1 at h
    simp [Fr.dd, SeqAt.shaped, PyData.canLay0, PyData.canLayAll0, PyData.depth, PyData.depthAll] at h ⊢
    exact h
  | .nw x => by
    have h : ok1 "new" = true := by decide +kernel
    unfold ok1 at h
    simp [Fr.dd, SeqAt.shaped, PyData.canLay0, PyData.canLayAll0, PyData.depth, PyData.depthAll] at h ⊢
    exact h
  | .pre hd x y => by
    have h : ok1 hd.w = true := by cases hd <;> decide +kernel
    unfold ok1 at h
    simp [Fr.dd, SeqAt.shaped, PyData.canLay0, PyData.canLayAll0, PyData.depth, PyData.depthAll] at h ⊢
    exact h
theorem any_tup (ds : List PyData) : ∀ l : List Str, ((l.map PyData.str).any fun z => PyData.eqv z (.tuple ds)) = false
  | [] => rfl
  | y :: l => by
    rw [List.map_cons, List.any_cons, any_tup ds l]
    simp [PyData.eqv]
theorem in_hd {f : Fr} {st : Store} (h : f.isBr = false) : kInT true (.tup f.hd) (.tup [.str "(", .str "["]) st = .ok (.bl true) st := by
  have e1 : dat (.tup f.hd) = some (.tuple f.dd) := by
    unfold dat
    rw [hd_dat]
    rfl
  have e2 : dat (.tup [.str "(", .str "["]) = some (.tuple (List.map PyData.str ["(", "["])) := by
    unfold dat
    show Option.map PyData.tuple (dats (List.map W.str ["(", "["])) = _
    rw [dats_strs ["(", "["]]
    rfl
  unfold kInT
  rw [e1, e2]
  have ok : (["(", "["] : List Str).all ok1 = true := by decide +kernel
  simp only [hd_shaped f, shaped_strs ok, Bool.and_self, if_true, any_tup]
  rfl
theorem closed_loop {ws : List Str} {l : W} {s0 : Store} {fi : Nat} {F F' : List Fr} {p : Pc} {o : Option Pc} {i j : Nat} (hc : Cl ws F p i F' o j) : ∀ (n : Nat) (st : Store) (fs : List W) (bnd : Nat) (x y z : Option W), F.length < n → F.length ≤ 1000 → j ≤ 400 →
    Grew s0 st → s0.length ≤ fi → st[fi]? = some (.L fs.reverse) → fi < bnd → bnd ≤ st.length → FS st fi bnd F fs →
    ∃ st' fs' bnd', Grew s0 st' ∧ st'[fi]? = some (.L fs'.reverse) ∧ fi < bnd' ∧ bnd' ≤ st'.length ∧ FS st' fi bnd' F' fs' ∧
      fin (thenS (sRet (eTup (aCons (eVar 4) (aCons (eVar 1) aNil)))) (sWhile n wt_closed wb_closed [some (wS ws), some (.int i), some l, some (.obj fi), some p.w, x, y, z] st)) = .ok (.tup [optW o, .int j]) st' := by
  induction hc with
  | @done p i =>
    intro n st fs bnd x y z hn _ _ hg h0 hf hb hb2 hF
    cases n with
    | zero => exact absurd hn (Nat.not_lt_zero _)
    | succ n =>
      cases fs with
      | cons w fs => exact hF.elim
      | nil =>
        refine ⟨st, [], bnd, hg, hf, hb, hb2, hF, ?_⟩
        have e1 : kLen [.obj fi] st = .ok (.int 0) st := k_lenO hf
        have d : decide ((0 : Int) < 0) = false := rfl
        rw [x_while]
        simp only [wt_closed, fin_rt, fin_nx, fin_exc, x_cons, thenS_nx, thenS_rt, thenS_ct, thenS_exc, x_nil, x_set, x_expr, x_ret, x_if, x_cont, x_asg, x_par, x_par3, x_for, x_loop0, outL_nx, outL_ct, outL_rt, x_raise, x_var, getV_some, x_c, x_e2, x_eT, asB_bl, x_and, x_or, x_not, x_vand, x_vor, x_vnot, x_ifE, x_chain, x_anil, x_acons, x_tup, x_lst, x_lstM, x_call, x_callD, x_CB, x_M0, x_M, x_neg, x_isi, x_iL, x_iT, asL_lst, asT_tup, x_gN, x_gT2, x_lc, x_lcEnd, x_lcEndM, x_lc0, nox_ok, x_yes, k_ii, k_eqS, k_eqI, k_lenL, k_lenT, k_tupL, k_tupT, k_lstT, k_lstS, k_int, at_0, at_1, at_2, at_3, toR_some, k_ixT, k_ixL, k_isNN, k_isNT, isS_S, x_dput, Res.bind_ok, Res.bind_exc, Res.bind_bad, List.getElem?_cons_zero, List.getElem?_cons_succ, List.set_cons_zero, List.set_cons_succ, List.length_cons, List.length_nil, if_true, if_false, Bool.false_eq_true, Bool.not_true, Bool.not_false, cond_true, cond_false, small, Nat.reduceAdd, Nat.reduceLeDiff, decide_true, decide_false, reduceCtorEq, reduceIte, e1, d, optW]
  | @down f F F' p o i j h k ih =>
    intro n st fs bnd x y z hn hF0 hj hg h0 hf hb hb2 hF
    cases n with
    | zero => exact absurd hn (Nat.not_lt_zero _)
    | succ n =>
      cases fs with
      | nil => exact hF.elim
      | cons w fs =>
        obtain ⟨hh, g0, g1, g2, rfl, g4, g5⟩ := hF
        rw [List.reverse_cons] at hf
        have hl := g5.len
        simp only [List.length_cons] at hn hF0
        have e1 : kLen [.obj fi] st = .ok (.int ((fs.reverse ++ [f.w hh]).length : Nat)) st := k_lenO hf
        have d : decide ((0 : Int) < ((fs.reverse ++ [f.w hh]).length : Nat)) = true := decide_eq_true (by simp)
        have ew : f.w hh = .lst [.tup f.hd, .non] := by cases f <;> first | rfl | cases h
        have e2 : kIx (.obj fi) (.int (-1)) st = .ok (.lst [.tup f.hd, .non]) st := by rw [k_ixO hf, at_last, ew]; try rfl
        have e3 : gL 2 (gsCons (gN 5) (gsCons (gN 6) gsNil)) (.lst [.tup f.hd, .non]) [some (wS ws), some (.int i), some l, some (.obj fi), some p.w, x, y, z] st = .ok [some (wS ws), some (.int i), some l, some (.obj fi), some p.w, some (.tup f.hd), some .non, z] st := rfl
        have e4 : kPop (.obj fi) [] st = .ok (f.w hh) (st.set fi (.L fs.reverse)) := k_pop hf
        have il : isL (.obj fi) st = true := isL_O hf
        have e5 : kCatT (.tup f.hd) (.tup [p.w]) (st.set fi (.L fs.reverse)) = .ok (f.on p).w (st.set fi (.L fs.reverse)) := by
          rw [on_w f h, k_catT (small_len (by have := hd_len f; simp; omega))]
        have hfl : fi < st.length := (List.getElem?_eq_some_iff.mp hf).1
        obtain ⟨st', fs', bnd', a1, a2, a3, a4, a5, a6⟩ := ih n (st.set fi (.L fs.reverse)) fs hh (some (.tup f.hd)) (some .non) z (by omega) (by omega) hj (hg.set h0 rfl) h0 (by rw [List.getElem?_set_self hfl]) g2 (by simp; omega)
          (g5.keep fun q q1 q2 => by rw [List.getElem?_set_ne (by omega)])
        refine ⟨st', fs', bnd', a1, a2, a3, a4, a5, ?_⟩
        have e6 : eNeg (eC (.int 1)) [some (wS ws), some (.int i), some l, some (.obj fi), some p.w, x, y, z] st = .ok (.int (-1)) st := rfl
        rw [x_while]
        simp only [wt_closed, wb_closed, fin_rt, fin_nx, fin_exc, x_cons, thenS_nx, thenS_rt, thenS_ct, thenS_exc, x_nil, x_set, x_expr, x_ret, x_if, x_cont, x_asg, x_par, x_par3, x_for, x_loop0, outL_nx, outL_ct, outL_rt, x_raise, x_var, getV_some, x_c, x_e2, x_eT, asB_bl, x_and, x_or, x_not, x_vand, x_vor, x_vnot, x_ifE, x_chain, x_anil, x_acons, x_tup, x_lst, x_lstM, x_call, x_callD, x_CB, x_M0, x_M, x_neg, x_isi, x_iL, x_iT, asL_lst, asT_tup, x_gN, x_gT2, x_lc, x_lcEnd, x_lcEndM, x_lc0, nox_ok, x_yes, k_ii, k_eqS, k_eqI, k_lenL, k_lenT, k_tupL, k_tupT, k_lstT, k_lstS, k_int, at_0, at_1, at_2, at_3, toR_some, k_ixT, k_ixL, k_isNN, k_isNT, isS_S, x_dput, Res.bind_ok, Res.bind_exc, Res.bind_bad, List.getElem?_cons_zero, List.getElem?_cons_succ, List.set_cons_zero, List.set_cons_succ, List.length_cons, List.length_nil, if_true, if_false, Bool.false_eq_true, Bool.not_true, Bool.not_false, cond_true, cond_false, small, Nat.reduceAdd, Nat.reduceLeDiff, decide_true, decide_false, reduceCtorEq, reduceIte, e1, d, e2, e3, in_hd h, il, e4, e5]
        exact a6
  | @more b ps F p i hpl h =>
    intro n st fs bnd x y z hn hF0 hj hg h0 hf hb hb2 hF
    cases n with
    | zero => exact absurd hn (Nat.not_lt_zero _)
    | succ n =>
      cases fs with
      | nil => exact hF.elim
      | cons w fs =>
        obtain ⟨hh, g0, g1, g2, rfl, g4, g5⟩ := hF
        rw [List.reverse_cons] at hf
        have hl := g5.len
        simp only [List.length_cons] at hn hF0
        have e1 : kLen [.obj fi] st = .ok (.int ((fs.reverse ++ [(Fr.br b ps).w hh]).length : Nat)) st := k_lenO hf
        have d : decide ((0 : Int) < ((fs.reverse ++ [(Fr.br b ps).w hh]).length : Nat)) = true := decide_eq_true (by simp)
        have e2 : kIx (.obj fi) (.int (-1)) st = .ok (.lst [.str (cond b "(" "["), .obj hh]) st := by rw [k_ixO hf, at_last]; try rfl
        have e3 : gL 2 (gsCons (gN 5) (gsCons (gN 6) gsNil)) (.lst [.str (cond b "(" "["), .obj hh]) [some (wS ws), some (.int i), some l, some (.obj fi), some p.w, x, y, z] st = .ok [some (wS ws), some (.int i), some l, some (.obj fi), some p.w, some (.str (cond b "(" "[")), some (.obj hh), z] st := rfl
        have i1 : kInT true (.str (cond b "(" "[")) (.tup [.str "(", .str "["]) st = .ok (.bl false) st := in_ (l := ["(", "["]) (by cases b <;> decide +kernel)
        have g1 := g1 rfl
        have g4' : st[hh]? = some (.L (Pc.wl ps)) := g4
        have e4 : kAppend (.obj hh) [p.w] st = .ok .non (st.set hh (.L (Pc.wl (ps ++ [p])))) := by
          rw [k_app g4' hpl, wl_append]
          rfl
        have il : isL (.obj hh) st = true := isL_O g4'
        have hhl : hh < st.length := by omega
        refine ⟨st.set hh (.L (Pc.wl (ps ++ [p]))), (Fr.br b ps).w hh :: fs, bnd, hg.set (by omega) rfl, by rw [List.getElem?_set_ne (by omega), hf, List.reverse_cons], hb, by simpa using hb2,
          ⟨hh, g0, fun _ => g1, g2, rfl, List.getElem?_set_self hhl, g5.keep fun q q1 q2 => by rw [List.getElem?_set_ne (by omega)]⟩, ?_⟩
        rw [x_while]
        cases b with
        | true =>
          simp only [cond_true] at h e2 e3 i1 ⊢
          have d1 : decide (("+" : Str) = "+") = true := by decide +kernel
          simp only [wt_closed, wb_closed, fin_rt, fin_nx, fin_exc, x_cons, thenS_nx, thenS_rt, thenS_ct, thenS_exc, x_nil, x_set, x_expr, x_ret, x_if, x_cont, x_asg, x_par, x_par3, x_for, x_loop0, outL_nx, outL_ct, outL_rt, x_raise, x_var, getV_some, x_c, x_e2, x_eT, asB_bl, x_and, x_or, x_not, x_vand, x_vor, x_vnot, x_ifE, x_chain, x_anil, x_acons, x_tup, x_lst, x_lstM, x_call, x_callD, x_CB, x_M0, x_M, x_neg, x_isi, x_iL, x_iT, asL_lst, asT_tup, x_gN, x_gT2, x_lc, x_lcEnd, x_lcEndM, x_lc0, nox_ok, x_yes, k_ii, k_eqS, k_eqI, k_lenL, k_lenT, k_tupL, k_tupT, k_lstT, k_lstS, k_int, at_0, at_1, at_2, at_3, toR_some, k_ixT, k_ixL, k_isNN, k_isNT, isS_S, x_dput, Res.bind_ok, Res.bind_exc, Res.bind_bad, List.getElem?_cons_zero, List.getElem?_cons_succ, List.set_cons_zero, List.set_cons_succ, List.length_cons, List.length_nil, if_true, if_false, Bool.false_eq_true, Bool.not_true, Bool.not_false, cond_true, cond_false, small, Nat.reduceAdd, Nat.reduceLeDiff, decide_true, decide_false, reduceCtorEq, reduceIte, e1, d, e2, e3, i1, il, e4, word_at_ok h (by omega), d1, optW, succI]
        | false =>
          simp only [cond_false] at h e2 e3 i1 ⊢
          have d1 : decide (("/" : Str) = "/") = true := by decide +kernel
          have d2 : decide (("[" : Str) = "(") = false := by decide +kernel
          simp only [wt_closed, wb_closed, fin_rt, fin_nx, fin_exc, x_cons, thenS_nx, thenS_rt, thenS_ct, thenS_exc, x_nil, x_set, x_expr, x_ret, x_if, x_cont, x_asg, x_par, x_par3, x_for, x_loop0, outL_nx, outL_ct, outL_rt, x_raise, x_var, getV_some, x_c, x_e2, x_eT, asB_bl, x_and, x_or, x_not, x_vand, x_vor, x_vnot, x_ifE, x_chain, x_anil, x_acons, x_tup, x_lst, x_lstM, x_call, x_callD, x_CB, x_M0, x_M, x_neg, x_isi, x_iL, x_iT, asL_lst, asT_tup, x_gN, x_gT2, x_lc, x_lcEnd, x_lcEndM, x_lc0, nox_ok, x_yes, k_ii, k_eqS, k_eqI, k_lenL, k_lenT, k_tupL, k_tupT, k_lstT, k_lstS, k_int, at_0, at_1, at_2, at_3, toR_some, k_ixT, k_ixL, k_isNN, k_isNT, isS_S, x_dput, Res.bind_ok, Res.bind_exc, Res.bind_bad, List.getElem?_cons_zero, List.getElem?_cons_succ, List.set_cons_zero, List.set_cons_succ, List.length_cons, List.length_nil, if_true, if_false, Bool.false_eq_true, Bool.not_true, Bool.not_false, cond_true, cond_false, small, Nat.reduceAdd, Nat.reduceLeDiff, decide_true, decide_false, reduceCtorEq, reduceIte, e1, d, e2, e3, i1, il, e4, word_at_ok h (by omega), d1, d2, optW, succI]
  | @end_ b ps F F' p o i j hpl h k ih =>
    intro n st fs bnd x y z hn hF0 hj hg h0 hf hb hb2 hF
    cases n with
    | zero => exact absurd hn (Nat.not_lt_zero _)
    | succ n =>
      cases fs with
      | nil => exact hF.elim
      | cons w fs =>
        obtain ⟨hh, g0, g1, g2, rfl, g4, g5⟩ := hF
        rw [List.reverse_cons] at hf
        have hl := g5.len
        simp only [List.length_cons] at hn hF0
        have e1 : kLen [.obj fi] st = .ok (.int ((fs.reverse ++ [(Fr.br b ps).w hh]).length : Nat)) st := k_lenO hf
        have d : decide ((0 : Int) < ((fs.reverse ++ [(Fr.br b ps).w hh]).length : Nat)) = true := decide_eq_true (by simp)
        have e2 : kIx (.obj fi) (.int (-1)) st = .ok (.lst [.str (cond b "(" "["), .obj hh]) st := by rw [k_ixO hf, at_last]; try rfl
        have e3 : gL 2 (gsCons (gN 5) (gsCons (gN 6) gsNil)) (.lst [.str (cond b "(" "["), .obj hh]) [some (wS ws), some (.int i), some l, some (.obj fi), some p.w, x, y, z] st = .ok [some (wS ws), some (.int i), some l, some (.obj fi), some p.w, some (.str (cond b "(" "[")), some (.obj hh), z] st := rfl
        have i1 : kInT true (.str (cond b "(" "[")) (.tup [.str "(", .str "["]) st = .ok (.bl false) st := in_ (l := ["(", "["]) (by cases b <;> decide +kernel)
        have g1 := g1 rfl
        have g4' : st[hh]? = some (.L (Pc.wl ps)) := g4
        have e4 : kAppend (.obj hh) [p.w] st = .ok .non (st.set hh (.L (Pc.wl (ps ++ [p])))) := by
          rw [k_app g4' hpl, wl_append]
          rfl
        have il : isL (.obj hh) st = true := isL_O g4'
        have hhl : hh < st.length := by omega
        have hf2 : (st.set hh (.L (Pc.wl (ps ++ [p]))))[fi]? = some (.L (fs.reverse ++ [(Fr.br b ps).w hh])) := by rw [List.getElem?_set_ne (by omega), hf]
        have e5 : kPop (.obj fi) [] (st.set hh (.L (Pc.wl (ps ++ [p])))) = .ok ((Fr.br b ps).w hh) ((st.set hh (.L (Pc.wl (ps ++ [p])))).set fi (.L fs.reverse)) := k_pop hf2
        have il2 : isL (.obj fi) (st.set hh (.L (Pc.wl (ps ++ [p])))) = true := isL_O hf2
        have hfl : fi < st.length := (List.getElem?_eq_some_iff.mp hf).1
        have e6 : kTuple [.obj hh] ((st.set hh (.L (Pc.wl (ps ++ [p])))).set fi (.L fs.reverse)) = .ok (.tup (Pc.wl (ps ++ [p]))) ((st.set hh (.L (Pc.wl (ps ++ [p])))).set fi (.L fs.reverse)) :=
          k_tupO (by rw [List.getElem?_set_ne (by omega), List.getElem?_set_self hhl])
        obtain ⟨st', fs', bnd', a1, a2, a3, a4, a5, a6⟩ := ih n ((st.set hh (.L (Pc.wl (ps ++ [p])))).set fi (.L fs.reverse)) fs hh (some (.str (cond b "(" "["))) (some (.obj hh)) (some (.str (cond b ")" "]"))) (by omega) (by omega) hj ((hg.set (by omega) rfl).set h0 rfl) h0
          (by rw [List.getElem?_set_self (by simpa using hfl)]) g2 (by simp; omega) (g5.keep fun q q1 q2 => by rw [List.getElem?_set_ne (by omega), List.getElem?_set_ne (by omega)])
        refine ⟨st', fs', bnd', a1, a2, a3, a4, a5, ?_⟩
        have hi : i < 400 := by have := hle k; omega
        rw [x_while]
        cases b with
        | true =>
          simp only [cond_true] at h e2 e3 i1 a6 ⊢
          have d1 : decide ((")" : Str) = "+") = false := by decide +kernel
          have d2 : decide ((")" : Str) = ")") = true := by decide +kernel
          simp only [wt_closed, wb_closed, fin_rt, fin_nx, fin_exc, x_cons, thenS_nx, thenS_rt, thenS_ct, thenS_exc, x_nil, x_set, x_expr, x_ret, x_if, x_cont, x_asg, x_par, x_par3, x_for, x_loop0, outL_nx, outL_ct, outL_rt, x_raise, x_var, getV_some, x_c, x_e2, x_eT, asB_bl, x_and, x_or, x_not, x_vand, x_vor, x_vnot, x_ifE, x_chain, x_anil, x_acons, x_tup, x_lst, x_lstM, x_call, x_callD, x_CB, x_M0, x_M, x_neg, x_isi, x_iL, x_iT, asL_lst, asT_tup, x_gN, x_gT2, x_lc, x_lcEnd, x_lcEndM, x_lc0, nox_ok, x_yes, k_ii, k_eqS, k_eqI, k_lenL, k_lenT, k_tupL, k_tupT, k_lstT, k_lstS, k_int, at_0, at_1, at_2, at_3, toR_some, k_ixT, k_ixL, k_isNN, k_isNT, isS_S, x_dput, Res.bind_ok, Res.bind_exc, Res.bind_bad, List.getElem?_cons_zero, List.getElem?_cons_succ, List.set_cons_zero, List.set_cons_succ, List.length_cons, List.length_nil, if_true, if_false, Bool.false_eq_true, Bool.not_true, Bool.not_false, cond_true, cond_false, small, Nat.reduceAdd, Nat.reduceLeDiff, decide_true, decide_false, reduceCtorEq, reduceIte, e1, d, e2, e3, i1, il, e4, word_at_ok h hi, d1, d2, il2, e5, e6, succI]
          exact a6
        | false =>
          simp only [cond_false] at h e2 e3 i1 a6 ⊢
          have d1 : decide (("]" : Str) = "/") = false := by decide +kernel
          have d2 : decide (("]" : Str) = "]") = true := by decide +kernel
          have d3 : decide (("[" : Str) = "(") = false := by decide +kernel
          simp only [wt_closed, wb_closed, fin_rt, fin_nx, fin_exc, x_cons, thenS_nx, thenS_rt, thenS_ct, thenS_exc, x_nil, x_set, x_expr, x_ret, x_if, x_cont, x_asg, x_par, x_par3, x_for, x_loop0, outL_nx, outL_ct, outL_rt, x_raise, x_var, getV_some, x_c, x_e2, x_eT, asB_bl, x_and, x_or, x_not, x_vand, x_vor, x_vnot, x_ifE, x_chain, x_anil, x_acons, x_tup, x_lst, x_lstM, x_call, x_callD, x_CB, x_M0, x_M, x_neg, x_isi, x_iL, x_iT, asL_lst, asT_tup, x_gN, x_gT2, x_lc, x_lcEnd, x_lcEndM, x_lc0, nox_ok, x_yes, k_ii, k_eqS, k_eqI, k_lenL, k_lenT, k_tupL, k_tupT, k_lstT, k_lstS, k_int, at_0, at_1, at_2, at_3, toR_some, k_ixT, k_ixL, k_isNN, k_isNT, isS_S, x_dput, Res.bind_ok, Res.bind_exc, Res.bind_bad, List.getElem?_cons_zero, List.getElem?_cons_succ, List.set_cons_zero, List.set_cons_succ, List.length_cons, List.length_nil, if_true, if_false, Bool.false_eq_true, Bool.not_true, Bool.not_false, cond_true, cond_false, small, Nat.reduceAdd, Nat.reduceLeDiff, decide_true, decide_false, reduceCtorEq, reduceIte, e1, d, e2, e3, i1, il, e4, word_at_ok h hi, d1, d2, d3, il2, e5, e6, succI]
          exact a6
end K85
end
section
set_option Elab.async false
set_option linter.all false
set_option maxRecDepth 100000
set_option maxHeartbeats 1000000
/-! M6: a piece is read. -/
namespace K85
open PySem Vl
/-- the frames' list at fi, its frames -/
structure Frames (s0 st : Store) (fi : Nat) (F : List Fr) : Prop where
  ex : ∃ fs bnd, st[fi]? = some (.L fs.reverse) ∧ fi < bnd ∧ bnd ≤ st.length ∧ FS st fi bnd F fs
  grew : Grew s0 st
  at_ : s0.length ≤ fi
theorem closed_ok {ws : List Str} {l : W} {s0 st : Store} {fi : Nat} {F F' : List Fr} {p : Pc} {o : Option Pc} {i j : Nat} (hc : Cl ws F p i F' o j) (hF : F.length < 900) (hj : j ≤ 400) (h : Frames s0 st fi F) :
    ∃ st', Frames s0 st' fi F' ∧ f_closed [wS ws, .int i, l, .obj fi, p.w] st = .ok (.tup [optW o, .int j]) st' := by
  obtain ⟨fs, bnd, h1, h2, h3, h4⟩ := h.ex
  obtain ⟨st', fs', bnd', a1, a2, a3, a4, a5, a6⟩ := closed_loop (l := l) hc 1000 st fs bnd none none none (by omega) (by omega) hj h.grew h.at_ h1 h2 h3 h4
  refine ⟨st', ⟨⟨fs', bnd', a2, a3, a4, a5⟩, a1, h.at_⟩, ?_⟩
  rw [u_closed]
  unfold b_closed
  rw [x_cons]
  exact a6
def narrow : List Fr → Bool
  | .br b _ :: _ => b
  | .pre .alike _ _ :: _ => true
  | .pre .unlike _ _ :: _ => true
  | _ => false
theorem k_eqDS {a b : Str} {st : Store} (ha : ok1 a = true) (hb : ok1 b = true) : kEqD false (.str a) (.str b) st = .ok (.bl (decide (a = b))) st := by
  have e1 : datS st (.str a) = some (.str a) := rfl
  have e2 : datS st (.str b) = some (.str b) := rfl
  unfold kEqD
  rw [e1, e2]
  simp only [shaped_str ha, shaped_str hb, Bool.and_self, if_true, cond_false]
  have : PyData.eqv (.str a) (.str b) = decide (a = b) := by
    unfold PyData.eqv
    by_cases h : a = b
    · subst h; simp
    · rw [decide_eq_false h]; simp; exact h
  rw [this]
theorem k_eqDh {f : Fr} {b : Str} {st : Store} (hb : ok1 b = true) : kEqD false (.tup f.hd) (.str b) st = .ok (.bl false) st := by
  have e1 : datS st (.tup f.hd) = some (.tuple f.dd) := by
    show dat (.tup f.hd) = _
    unfold dat
    rw [hd_dat]
    rfl
  have e2 : datS st (.str b) = some (.str b) := rfl
  unfold kEqD
  rw [e1, e2]
  simp only [hd_shaped f, shaped_str hb, Bool.and_self, if_true, cond_false]
  have : PyData.eqv (.tuple f.dd) (.str b) = false := by simp [PyData.eqv]
  rw [this]
theorem is_narrow_ok {s0 st : Store} {fi : Nat} {F : List Fr} (h : Frames s0 st fi F) (hl : F.length < 900) : f_is_narrow [.obj fi] st = .ok (.bl (narrow F)) st := by
  obtain ⟨fs, bnd, h1, h2, h3, h4⟩ := h.ex
  have o1 : ok1 "(" = true := by decide +kernel
  rw [u_is_narrow]
  cases F with
  | nil =>
    cases fs with
    | cons w fs => exact h4.elim
    | nil =>
      have e1 : kLen [.obj fi] st = .ok (.int 0) st := k_lenO h1
      have d : decide ((0 : Int) = 0) = true := rfl
      simp only [b_is_narrow, fin_rt, fin_nx, fin_exc, x_cons, thenS_nx, thenS_rt, thenS_ct, thenS_exc, x_nil, x_set, x_expr, x_ret, x_if, x_cont, x_asg, x_par, x_par3, x_for, x_loop0, outL_nx, outL_ct, outL_rt, x_raise, x_var, getV_some, x_c, x_e2, x_eT, asB_bl, x_and, x_or, x_not, x_vand, x_vor, x_vnot, x_ifE, x_chain, x_anil, x_acons, x_tup, x_lst, x_lstM, x_call, x_callD, x_CB, x_M0, x_M, x_neg, x_isi, x_iL, x_iT, asL_lst, asT_tup, x_gN, x_gT2, x_lc, x_lcEnd, x_lcEndM, x_lc0, nox_ok, x_yes, k_ii, k_eqS, k_eqI, k_lenL, k_lenT, k_tupL, k_tupT, k_lstT, k_lstS, k_int, at_0, at_1, at_2, at_3, toR_some, k_ixT, k_ixL, k_isNN, k_isNT, isS_S, x_dput, Res.bind_ok, Res.bind_exc, Res.bind_bad, List.getElem?_cons_zero, List.getElem?_cons_succ, List.set_cons_zero, List.set_cons_succ, List.length_cons, List.length_nil, if_true, if_false, Bool.false_eq_true, Bool.not_true, Bool.not_false, cond_true, cond_false, small, Nat.reduceAdd, Nat.reduceLeDiff, decide_true, decide_false, reduceCtorEq, reduceIte, e1, d, narrow]
  | cons f F =>
    cases fs with
    | nil => exact h4.elim
    | cons w fs =>
      obtain ⟨hh, g0, g1, g2, rfl, g4, g5⟩ := h4
      rw [List.reverse_cons] at h1
      have e1 : kLen [.obj fi] st = .ok (.int ((fs.reverse ++ [f.w hh]).length : Nat)) st := k_lenO h1
      have d : decide ((((fs.reverse ++ [f.w hh]).length : Nat) : Int) = 0) = false := decide_eq_false (by simp; omega)
      have e2 : kIx (.obj fi) (.int (-1)) st = .ok (f.w hh) st := by rw [k_ixO h1, at_last]; rfl
      cases f with
      | br b ps =>
        have e3 : kIx ((Fr.br b ps).w hh) (.int 0) st = .ok (.str (cond b "(" "[")) st := rfl
        have i1 : kInT true (.str (cond b "(" "[")) (.tup [.str "(", .str "["]) st = .ok (.bl false) st := in_ (l := ["(", "["]) (by cases b <;> decide +kernel)
        have o2 : ok1 (cond b "(" "[") = true := by cases b <;> decide +kernel
        have e4 := k_eqDS (st := st) o2 o1
        simp only [b_is_narrow, fin_rt, fin_nx, fin_exc, x_cons, thenS_nx, thenS_rt, thenS_ct, thenS_exc, x_nil, x_set, x_expr, x_ret, x_if, x_cont, x_asg, x_par, x_par3, x_for, x_loop0, outL_nx, outL_ct, outL_rt, x_raise, x_var, getV_some, x_c, x_e2, x_eT, asB_bl, x_and, x_or, x_not, x_vand, x_vor, x_vnot, x_ifE, x_chain, x_anil, x_acons, x_tup, x_lst, x_lstM, x_call, x_callD, x_CB, x_M0, x_M, x_neg, x_isi, x_iL, x_iT, asL_lst, asT_tup, x_gN, x_gT2, x_lc, x_lcEnd, x_lcEndM, x_lc0, nox_ok, x_yes, k_ii, k_eqS, k_eqI, k_lenL, k_lenT, k_tupL, k_tupT, k_lstT, k_lstS, k_int, at_0, at_1, at_2, at_3, toR_some, k_ixT, k_ixL, k_isNN, k_isNT, isS_S, x_dput, Res.bind_ok, Res.bind_exc, Res.bind_bad, List.getElem?_cons_zero, List.getElem?_cons_succ, List.set_cons_zero, List.set_cons_succ, List.length_cons, List.length_nil, if_true, if_false, Bool.false_eq_true, Bool.not_true, Bool.not_false, cond_true, cond_false, small, Nat.reduceAdd, Nat.reduceLeDiff, decide_true, decide_false, reduceCtorEq, reduceIte, e1, d, e2, e3, e4, i1]
        cases b with
        | true => rfl
        | false =>
          have d2 : decide (("[" : Str) = "(") = false := by decide +kernel
          simp only [cond_false, d2, narrow, fin_rt, fin_nx, fin_exc, x_cons, thenS_nx, thenS_rt, thenS_ct, thenS_exc, x_nil, x_set, x_expr, x_ret, x_if, x_cont, x_asg, x_par, x_par3, x_for, x_loop0, outL_nx, outL_ct, outL_rt, x_raise, x_var, getV_some, x_c, x_e2, x_eT, asB_bl, x_and, x_or, x_not, x_vand, x_vor, x_vnot, x_ifE, x_chain, x_anil, x_acons, x_tup, x_lst, x_lstM, x_call, x_callD, x_CB, x_M0, x_M, x_neg, x_isi, x_iL, x_iT, asL_lst, asT_tup, x_gN, x_gT2, x_lc, x_lcEnd, x_lcEndM, x_lc0, nox_ok, x_yes, k_ii, k_eqS, k_eqI, k_lenL, k_lenT, k_tupL, k_tupT, k_lstT, k_lstS, k_int, at_0, at_1, at_2, at_3, toR_some, k_ixT, k_ixL, k_isNN, k_isNT, isS_S, x_dput, Res.bind_ok, Res.bind_exc, Res.bind_bad, List.getElem?_cons_zero, List.getElem?_cons_succ, List.set_cons_zero, List.set_cons_succ, List.length_cons, List.length_nil, if_true, if_false, Bool.false_eq_true, Bool.not_true, Bool.not_false, cond_true, cond_false, small, Nat.reduceAdd, Nat.reduceLeDiff, decide_true, decide_false, reduceCtorEq, reduceIte]
      | wait =>
        have e3 : kIx (Fr.wait.w hh) (.int 0) st = .ok (.tup Fr.wait.hd) st := rfl
        have e5 : L2.atI Fr.wait.hd 0 = some (.str "wait") := rfl
        have i2 : kInT false (.str "wait") (.tup [.str "alike", .str "unlike"]) st = .ok (.bl false) st := in_ (l := ["alike", "unlike"]) (by decide +kernel)
        simp only [b_is_narrow, fin_rt, fin_nx, fin_exc, x_cons, thenS_nx, thenS_rt, thenS_ct, thenS_exc, x_nil, x_set, x_expr, x_ret, x_if, x_cont, x_asg, x_par, x_par3, x_for, x_loop0, outL_nx, outL_ct, outL_rt, x_raise, x_var, getV_some, x_c, x_e2, x_eT, asB_bl, x_and, x_or, x_not, x_vand, x_vor, x_vnot, x_ifE, x_chain, x_anil, x_acons, x_tup, x_lst, x_lstM, x_call, x_callD, x_CB, x_M0, x_M, x_neg, x_isi, x_iL, x_iT, asL_lst, asT_tup, x_gN, x_gT2, x_lc, x_lcEnd, x_lcEndM, x_lc0, nox_ok, x_yes, k_ii, k_eqS, k_eqI, k_lenL, k_lenT, k_tupL, k_tupT, k_lstT, k_lstS, k_int, at_0, at_1, at_2, at_3, toR_some, k_ixT, k_ixL, k_isNN, k_isNT, isS_S, x_dput, Res.bind_ok, Res.bind_exc, Res.bind_bad, List.getElem?_cons_zero, List.getElem?_cons_succ, List.set_cons_zero, List.set_cons_succ, List.length_cons, List.length_nil, if_true, if_false, Bool.false_eq_true, Bool.not_true, Bool.not_false, cond_true, cond_false, small, Nat.reduceAdd, Nat.reduceLeDiff, decide_true, decide_false, reduceCtorEq, reduceIte, e1, d, e2, e3, k_eqDh (f := .wait) o1, in_hd (f := .wait) rfl, e5, i2, narrow]
      | nw x =>
        have e3 : kIx ((Fr.nw x).w hh) (.int 0) st = .ok (.tup (Fr.nw x).hd) st := rfl
        have e5 : L2.atI (Fr.nw x).hd 0 = some (.str "new") := rfl
        have i2 : kInT false (.str "new") (.tup [.str "alike", .str "unlike"]) st = .ok (.bl false) st := in_ (l := ["alike", "unlike"]) (by decide +kernel)
        simp only [b_is_narrow, fin_rt, fin_nx, fin_exc, x_cons, thenS_nx, thenS_rt, thenS_ct, thenS_exc, x_nil, x_set, x_expr, x_ret, x_if, x_cont, x_asg, x_par, x_par3, x_for, x_loop0, outL_nx, outL_ct, outL_rt, x_raise, x_var, getV_some, x_c, x_e2, x_eT, asB_bl, x_and, x_or, x_not, x_vand, x_vor, x_vnot, x_ifE, x_chain, x_anil, x_acons, x_tup, x_lst, x_lstM, x_call, x_callD, x_CB, x_M0, x_M, x_neg, x_isi, x_iL, x_iT, asL_lst, asT_tup, x_gN, x_gT2, x_lc, x_lcEnd, x_lcEndM, x_lc0, nox_ok, x_yes, k_ii, k_eqS, k_eqI, k_lenL, k_lenT, k_tupL, k_tupT, k_lstT, k_lstS, k_int, at_0, at_1, at_2, at_3, toR_some, k_ixT, k_ixL, k_isNN, k_isNT, isS_S, x_dput, Res.bind_ok, Res.bind_exc, Res.bind_bad, List.getElem?_cons_zero, List.getElem?_cons_succ, List.set_cons_zero, List.set_cons_succ, List.length_cons, List.length_nil, if_true, if_false, Bool.false_eq_true, Bool.not_true, Bool.not_false, cond_true, cond_false, small, Nat.reduceAdd, Nat.reduceLeDiff, decide_true, decide_false, reduceCtorEq, reduceIte, e1, d, e2, e3, k_eqDh (f := .nw x) o1, in_hd (f := .nw x) rfl, e5, i2, narrow]
      | pre hd x y =>
        have e3 : kIx ((Fr.pre hd x y).w hh) (.int 0) st = .ok (.tup (Fr.pre hd x y).hd) st := rfl
        have e5 : L2.atI (Fr.pre hd x y).hd 0 = some (.str hd.w) := rfl
        have i2 : kInT false (.str hd.w) (.tup [.str "alike", .str "unlike"]) st = .ok (.bl (narrow (.pre hd x y :: F))) st := in_ (l := ["alike", "unlike"]) (by cases hd <;> simp only [narrow] <;> decide +kernel)
        simp only [b_is_narrow, fin_rt, fin_nx, fin_exc, x_cons, thenS_nx, thenS_rt, thenS_ct, thenS_exc, x_nil, x_set, x_expr, x_ret, x_if, x_cont, x_asg, x_par, x_par3, x_for, x_loop0, outL_nx, outL_ct, outL_rt, x_raise, x_var, getV_some, x_c, x_e2, x_eT, asB_bl, x_and, x_or, x_not, x_vand, x_vor, x_vnot, x_ifE, x_chain, x_anil, x_acons, x_tup, x_lst, x_lstM, x_call, x_callD, x_CB, x_M0, x_M, x_neg, x_isi, x_iL, x_iT, asL_lst, asT_tup, x_gN, x_gT2, x_lc, x_lcEnd, x_lcEndM, x_lc0, nox_ok, x_yes, k_ii, k_eqS, k_eqI, k_lenL, k_lenT, k_tupL, k_tupT, k_lstT, k_lstS, k_int, at_0, at_1, at_2, at_3, toR_some, k_ixT, k_ixL, k_isNN, k_isNT, isS_S, x_dput, Res.bind_ok, Res.bind_exc, Res.bind_bad, List.getElem?_cons_zero, List.getElem?_cons_succ, List.set_cons_zero, List.set_cons_succ, List.length_cons, List.length_nil, if_true, if_false, Bool.false_eq_true, Bool.not_true, Bool.not_false, cond_true, cond_false, small, Nat.reduceAdd, Nat.reduceLeDiff, decide_true, decide_false, reduceCtorEq, reduceIte, e1, d, e2, e3, k_eqDh (f := .pre hd x y) o1, in_hd (f := .pre hd x y) rfl, e5, i2]
/-! ### the reading loop -/
def PL (n : Nat) (ws : List Str) (l w1 : W) (fi i : Nat) (o : Option Pc) (x y z : Option W) (st : Store) : Res Out := sWhile n wt_piece_from wb_piece_from [some (wS ws), some w1, some l, some (.obj fi), some (.int i), some (optW o), x, y, z] st
theorem k_isP {n : Bool} {p : Pc} {st : Store} : kIsN n p.w .non st = .ok (.bl n) st := by cases p <;> rfl
/-- a head is laid on the frames -/
theorem Frames.push {s0 st : Store} {fi : Nat} {F : List Fr} (h : Frames s0 st fi F) (hl : F.length < 900) (f : Fr) (hf : f.isBr = false) :
    isL (.obj fi) st = true ∧ ∃ st', Frames s0 st' fi (f :: F) ∧ kAppend (.obj fi) [.lst [.tup f.hd, .non]] st = .ok .non st' := by
  obtain ⟨fs, bnd, h1, h2, h3, h4⟩ := h.ex
  have hfl : fi < st.length := (List.getElem?_eq_some_iff.mp h1).1
  have hl2 := h4.len
  have ew : .lst [.tup f.hd, .non] = f.w bnd := by cases f <;> first | rfl | cases hf
  refine ⟨isL_O h1, List.set st fi (MO.L (fs.reverse ++ [f.w bnd])), ⟨⟨f.w bnd :: fs, bnd, ?_, h2, by simpa using h3, bnd, Nat.le_refl _, (fun e => by rw [hf] at e; cases e), h2, rfl, ?_, h4.keep fun q q1 q2 => by rw [List.getElem?_set_ne (by omega)]⟩, h.grew.set h.at_ rfl, h.at_⟩, ?_⟩
  · rw [List.getElem?_set_self hfl, List.reverse_cons]
  · cases f <;> first | trivial | cases hf
  · rw [ew, k_app h1 (by simp; omega)]
/-- an opened list is laid on the frames -/
theorem Frames.open_ {s0 st : Store} {fi : Nat} {F : List Fr} (h : Frames s0 st fi F) (hl : F.length < 900) (b : Bool) :
    isL (.obj fi) (st ++ [MO.L []]) = true ∧ ∃ st', Frames s0 st' fi (.br b [] :: F) ∧ kAppend (.obj fi) [.lst [.str (cond b "(" "["), .obj st.length]] (st ++ [.L []]) = .ok .non st' := by
  obtain ⟨fs, bnd, h1, h2, h3, h4⟩ := h.ex
  have hfl : fi < st.length := (List.getElem?_eq_some_iff.mp h1).1
  have hl2 := h4.len
  have h1' : (st ++ [MO.L []])[fi]? = some (.L fs.reverse) := by rw [List.getElem?_append_left hfl]; exact h1
  refine ⟨isL_O h1', List.set (st ++ [MO.L []]) fi (MO.L (fs.reverse ++ [(Fr.br b []).w st.length])), ⟨⟨(Fr.br b []).w st.length :: fs, st.length + 1, ?_, by omega, by simp, st.length, by omega, (fun _ => by omega), by omega, rfl, ?_, (h4.up h3).keep fun q q1 q2 => ?_⟩, (h.grew.push rfl).set h.at_ rfl, h.at_⟩, ?_⟩
  · rw [List.getElem?_set_self (by simp; omega), List.reverse_cons]
  · show ((st ++ [MO.L []]).set fi _)[st.length]? = some (.L (Pc.wl []))
    rw [List.getElem?_set_ne (by omega)]
    simp [Pc.wl]
  · rw [List.getElem?_set_ne (by omega), List.getElem?_append_left q1]
  · rw [k_app h1' (by simp; omega)]
    rfl
theorem Frames.more {s0 st : Store} {fi : Nat} {F : List Fr} {m : MO} (h : Frames s0 st fi F) (hm : m.isTab = false) : Frames s0 (st ++ [m]) fi F := by
  obtain ⟨fs, bnd, h1, h2, h3, h4⟩ := h.ex
  have hfl : fi < st.length := (List.getElem?_eq_some_iff.mp h1).1
  exact ⟨⟨fs, bnd, by rw [List.getElem?_append_left hfl]; exact h1, h2, by simp; omega, h4.keep fun q q1 q2 => by rw [List.getElem?_append_left (by omega)]⟩, h.grew.push hm, h.at_⟩
section
variable {ws : List Str} {l w1 : W} {s0 st : Store} {fi i j : Nat} {F F' : List Fr} {p : Pc} {o : Option Pc} {x y z : Option W}
/-- one step on a word that is a head; its frame is laid on -/
theorem step_head (f : Fr) (hf : f.isBr = false) (k : Nat) {wd : Str} (hw : ws[i]? = some wd) (hi : i < 400) (h : Frames s0 st fi F) (hl : F.length < 900) (hm : f_may_begin [.str wd, .bl (narrow F)] st = .ok (.bl true) st) (hn : chk false wd ["(", "["] false = true) (hc : decide (wd = "call") = false)
    (hh : f_headed [wS ws, .int i, l, .str wd] st = .ok (.tup [.tup f.hd, .int k]) st) :
    ∃ st', Frames s0 st' fi (f :: F) ∧ ∀ n, PL (n + 1) ws l w1 fi i none x y z st = PL n ws l w1 fi k none (some (.str wd)) (some .non) (some (.tup f.hd)) st' := by
  obtain ⟨il, st', a1, a2⟩ := h.push hl f hf
  have i1 : kInT false (.str wd) (.tup [.str "(", .str "["]) st = .ok (.bl false) st := in_ (l := ["(", "["]) hn
  refine ⟨st', a1, fun n => ?_⟩
  unfold PL
  rw [x_while]
  simp only [wt_piece_from, wb_piece_from, optW, fin_rt, fin_nx, fin_exc, x_cons, thenS_nx, thenS_rt, thenS_ct, thenS_exc, x_nil, x_set, x_expr, x_ret, x_if, x_cont, x_asg, x_par, x_par3, x_for, x_loop0, outL_nx, outL_ct, outL_rt, x_raise, x_var, getV_some, x_c, x_e2, x_eT, asB_bl, x_and, x_or, x_not, x_vand, x_vor, x_vnot, x_ifE, x_chain, x_anil, x_acons, x_tup, x_lst, x_lstM, x_call, x_callD, x_CB, x_M0, x_M, x_neg, x_isi, x_iL, x_iT, asL_lst, asT_tup, x_gN, x_gT2, x_lc, x_lcEnd, x_lcEndM, x_lc0, nox_ok, x_yes, k_ii, k_eqS, k_eqI, k_lenL, k_lenT, k_tupL, k_tupT, k_lstT, k_lstS, k_int, at_0, at_1, at_2, at_3, toR_some, k_ixT, k_ixL, k_isNN, k_isNT, isS_S, x_dput, Res.bind_ok, Res.bind_exc, Res.bind_bad, List.getElem?_cons_zero, List.getElem?_cons_succ, List.set_cons_zero, List.set_cons_succ, List.length_cons, List.length_nil, if_true, if_false, Bool.false_eq_true, Bool.not_true, Bool.not_false, cond_true, cond_false, small, Nat.reduceAdd, Nat.reduceLeDiff, decide_true, decide_false, reduceCtorEq, reduceIte, word_at_ok hw hi, is_narrow_ok h hl, hm, i1, hh, hc, il, a2]
end
end K85
end
section
set_option Elab.async false
set_option linter.all false
set_option maxRecDepth 100000
set_option maxHeartbeats 1000000
/-! M7: a piece is read, to its end. -/
namespace K85
open PySem Vl
section
variable {ws : List Str} {l w1 : W} {s0 st : Store} {fi i j : Nat} {F F' : List Fr} {p : Pc} {o : Option Pc} {x y z : Option W}
theorem step_call {k : Nat} {ns : List Nat} (hw : Has ws i (Pc.call k ns).t) (hn : narrow F = false) (hnm : (Pc.call k ns).nm) (hc : Cl ws F (.call k ns) (i + (Pc.call k ns).t.length) F' o j) (h : Frames s0 st fi F) (hl : F.length < 900) (hj : j < 400) :
    ∃ st' x' y' z', Frames s0 st' fi F' ∧ ∀ n, PL (n + 1) ws l w1 fi i none x y z st = PL n ws l w1 fi j o x' y' z' st' := by
  obtain ⟨hk, hns⟩ := hnm
  have hij := hle hc
  have e0 : (Pc.call k ns).t.length = ns.length + 4 := by simp [Pc.t]
  rw [e0] at hc hij
  have hw' : Has ws i ("call" :: num k :: "(" :: (ns.map letter ++ ([")"] : List Str))) := hw
  have hm : f_may_begin [.str "call", .bl (narrow F)] st = .ok (.bl true) st := by rw [hn]; exact mb_ot (by decide +kernel) (by decide +kernel)
  have hh := headed_call (l := l) (st := st) hw'.tail (by omega) hk hns
  obtain ⟨st', a1, a2⟩ := closed_ok (l := l) hc hl (by omega) (h.more (m := .L (ns.map nat)) rfl)
  have i1 : kInT false (.str "call") (.tup [.str "(", .str "["]) st = .ok (.bl false) st := in_ (l := ["(", "["]) (by decide +kernel)
  have d1 : decide (("call" : Str) = "call") = true := by decide +kernel
  simp only [Pc.w] at a2
  refine ⟨st', some (.str "call"), some (Pc.call k ns).w, some (Pc.call k ns).w, a1, fun n => ?_⟩
  unfold PL
  rw [x_while]
  simp only [wt_piece_from, wb_piece_from, optW, fin_rt, fin_nx, fin_exc, x_cons, thenS_nx, thenS_rt, thenS_ct, thenS_exc, x_nil, x_set, x_expr, x_ret, x_if, x_cont, x_asg, x_par, x_par3, x_for, x_loop0, outL_nx, outL_ct, outL_rt, x_raise, x_var, getV_some, x_c, x_e2, x_eT, asB_bl, x_and, x_or, x_not, x_vand, x_vor, x_vnot, x_ifE, x_chain, x_anil, x_acons, x_tup, x_lst, x_lstM, x_call, x_callD, x_CB, x_M0, x_M, x_neg, x_isi, x_iL, x_iT, asL_lst, asT_tup, x_gN, x_gT2, x_lc, x_lcEnd, x_lcEndM, x_lc0, nox_ok, x_yes, k_ii, k_eqS, k_eqI, k_lenL, k_lenT, k_tupL, k_tupT, k_lstT, k_lstS, k_int, at_0, at_1, at_2, at_3, toR_some, k_ixT, k_ixL, k_isNN, k_isNT, isS_S, x_dput, Res.bind_ok, Res.bind_exc, Res.bind_bad, List.getElem?_cons_zero, List.getElem?_cons_succ, List.set_cons_zero, List.set_cons_succ, List.length_cons, List.length_nil, if_true, if_false, Bool.false_eq_true, Bool.not_true, Bool.not_false, cond_true, cond_false, small, Nat.reduceAdd, Nat.reduceLeDiff, decide_true, decide_false, reduceCtorEq, reduceIte, word_at_ok hw'.head (by omega), is_narrow_ok h hl, hm, i1, hh, d1]
  rw [show i + ns.length + 4 = i + (ns.length + 4) by omega, a2]
  simp only [optW, Pc.w, fin_rt, fin_nx, fin_exc, x_cons, thenS_nx, thenS_rt, thenS_ct, thenS_exc, x_nil, x_set, x_expr, x_ret, x_if, x_cont, x_asg, x_par, x_par3, x_for, x_loop0, outL_nx, outL_ct, outL_rt, x_raise, x_var, getV_some, x_c, x_e2, x_eT, asB_bl, x_and, x_or, x_not, x_vand, x_vor, x_vnot, x_ifE, x_chain, x_anil, x_acons, x_tup, x_lst, x_lstM, x_call, x_callD, x_CB, x_M0, x_M, x_neg, x_isi, x_iL, x_iT, asL_lst, asT_tup, x_gN, x_gT2, x_lc, x_lcEnd, x_lcEndM, x_lc0, nox_ok, x_yes, k_ii, k_eqS, k_eqI, k_lenL, k_lenT, k_tupL, k_tupT, k_lstT, k_lstS, k_int, at_0, at_1, at_2, at_3, toR_some, k_ixT, k_ixL, k_isNN, k_isNT, isS_S, x_dput, Res.bind_ok, Res.bind_exc, Res.bind_bad, List.getElem?_cons_zero, List.getElem?_cons_succ, List.set_cons_zero, List.set_cons_succ, List.length_cons, List.length_nil, if_true, if_false, Bool.false_eq_true, Bool.not_true, Bool.not_false, cond_true, cond_false, small, Nat.reduceAdd, Nat.reduceLeDiff, decide_true, decide_false, reduceCtorEq, reduceIte]
theorem step_empty (b : Bool) (h0 : ws[i]? = some (cond b ("(" : Str) "[")) (h1 : ws[i + 1]? = some (cond b (")" : Str) "]")) (hn : narrow F = false) (hc : Cl ws F (.sum b []) (i + 2) F' o j) (h : Frames s0 st fi F) (hl : F.length < 900) (hj : j < 400) :
    ∃ st' x' y' z', Frames s0 st' fi F' ∧ ∀ n, PL (n + 1) ws l w1 fi i none x y z st = PL n ws l w1 fi j o x' y' z' st' := by
  have hij := hle hc
  have hm : f_may_begin [.str (cond b "(" "["), .bl (narrow F)] st = .ok (.bl true) st := by rw [hn]; exact mb_ot (by cases b <;> decide +kernel) (by cases b <;> decide +kernel)
  obtain ⟨st', a1, a2⟩ := closed_ok (l := l) hc hl (by omega) h
  have i1 : kInT false (.str (cond b "(" "[")) (.tup [.str "(", .str "["]) st = .ok (.bl true) st := in_ (l := ["(", "["]) (by cases b <;> decide +kernel)
  have hli : f_listed [wS ws, .int i, l, .obj fi, .str (cond b "(" "[")] st = .ok (.tup [(Pc.sum b []).w, .int (i + 2 : Nat)]) st := by
    rw [u_listed]
    cases b with
    | true =>
      simp only [cond_true] at h1 ⊢
      have d1 : decide (("(" : Str) = "(") = true := by decide +kernel
      have d2 : decide ((")" : Str) = ")") = true := by decide +kernel
      simp only [b_listed, fin_rt, fin_nx, fin_exc, x_cons, thenS_nx, thenS_rt, thenS_ct, thenS_exc, x_nil, x_set, x_expr, x_ret, x_if, x_cont, x_asg, x_par, x_par3, x_for, x_loop0, outL_nx, outL_ct, outL_rt, x_raise, x_var, getV_some, x_c, x_e2, x_eT, asB_bl, x_and, x_or, x_not, x_vand, x_vor, x_vnot, x_ifE, x_chain, x_anil, x_acons, x_tup, x_lst, x_lstM, x_call, x_callD, x_CB, x_M0, x_M, x_neg, x_isi, x_iL, x_iT, asL_lst, asT_tup, x_gN, x_gT2, x_lc, x_lcEnd, x_lcEndM, x_lc0, nox_ok, x_yes, k_ii, k_eqS, k_eqI, k_lenL, k_lenT, k_tupL, k_tupT, k_lstT, k_lstS, k_int, at_0, at_1, at_2, at_3, toR_some, k_ixT, k_ixL, k_isNN, k_isNT, isS_S, x_dput, Res.bind_ok, Res.bind_exc, Res.bind_bad, List.getElem?_cons_zero, List.getElem?_cons_succ, List.set_cons_zero, List.set_cons_succ, List.length_cons, List.length_nil, if_true, if_false, Bool.false_eq_true, Bool.not_true, Bool.not_false, cond_true, cond_false, small, Nat.reduceAdd, Nat.reduceLeDiff, decide_true, decide_false, reduceCtorEq, reduceIte, d1, d2, word_at_ok h1 (by omega), succI]
      rfl
    | false =>
      simp only [cond_false] at h1 ⊢
      have d1 : decide (("[" : Str) = "(") = false := by decide +kernel
      have d2 : decide (("]" : Str) = "]") = true := by decide +kernel
      simp only [b_listed, fin_rt, fin_nx, fin_exc, x_cons, thenS_nx, thenS_rt, thenS_ct, thenS_exc, x_nil, x_set, x_expr, x_ret, x_if, x_cont, x_asg, x_par, x_par3, x_for, x_loop0, outL_nx, outL_ct, outL_rt, x_raise, x_var, getV_some, x_c, x_e2, x_eT, asB_bl, x_and, x_or, x_not, x_vand, x_vor, x_vnot, x_ifE, x_chain, x_anil, x_acons, x_tup, x_lst, x_lstM, x_call, x_callD, x_CB, x_M0, x_M, x_neg, x_isi, x_iL, x_iT, asL_lst, asT_tup, x_gN, x_gT2, x_lc, x_lcEnd, x_lcEndM, x_lc0, nox_ok, x_yes, k_ii, k_eqS, k_eqI, k_lenL, k_lenT, k_tupL, k_tupT, k_lstT, k_lstS, k_int, at_0, at_1, at_2, at_3, toR_some, k_ixT, k_ixL, k_isNN, k_isNT, isS_S, x_dput, Res.bind_ok, Res.bind_exc, Res.bind_bad, List.getElem?_cons_zero, List.getElem?_cons_succ, List.set_cons_zero, List.set_cons_succ, List.length_cons, List.length_nil, if_true, if_false, Bool.false_eq_true, Bool.not_true, Bool.not_false, cond_true, cond_false, small, Nat.reduceAdd, Nat.reduceLeDiff, decide_true, decide_false, reduceCtorEq, reduceIte, d1, d2, word_at_ok h1 (by omega), succI]
      rfl
  refine ⟨st', some (.str (cond b "(" "[")), some (Pc.sum b []).w, z, a1, fun n => ?_⟩
  unfold PL
  rw [x_while]
  simp only [wt_piece_from, wb_piece_from, optW, fin_rt, fin_nx, fin_exc, x_cons, thenS_nx, thenS_rt, thenS_ct, thenS_exc, x_nil, x_set, x_expr, x_ret, x_if, x_cont, x_asg, x_par, x_par3, x_for, x_loop0, outL_nx, outL_ct, outL_rt, x_raise, x_var, getV_some, x_c, x_e2, x_eT, asB_bl, x_and, x_or, x_not, x_vand, x_vor, x_vnot, x_ifE, x_chain, x_anil, x_acons, x_tup, x_lst, x_lstM, x_call, x_callD, x_CB, x_M0, x_M, x_neg, x_isi, x_iL, x_iT, asL_lst, asT_tup, x_gN, x_gT2, x_lc, x_lcEnd, x_lcEndM, x_lc0, nox_ok, x_yes, k_ii, k_eqS, k_eqI, k_lenL, k_lenT, k_tupL, k_tupT, k_lstT, k_lstS, k_int, at_0, at_1, at_2, at_3, toR_some, k_ixT, k_ixL, k_isNN, k_isNT, isS_S, x_dput, Res.bind_ok, Res.bind_exc, Res.bind_bad, List.getElem?_cons_zero, List.getElem?_cons_succ, List.set_cons_zero, List.set_cons_succ, List.length_cons, List.length_nil, if_true, if_false, Bool.false_eq_true, Bool.not_true, Bool.not_false, cond_true, cond_false, small, Nat.reduceAdd, Nat.reduceLeDiff, decide_true, decide_false, reduceCtorEq, reduceIte, word_at_ok h0 (by omega), is_narrow_ok h hl, hm, i1, hli, k_isP, a2]
theorem step_open (b : Bool) {wd : Str} (h0 : ws[i]? = some (cond b ("(" : Str) "[")) (h1 : ws[i + 1]? = some wd) (hne : decide (wd = cond b ")" "]") = false) (hn : narrow F = false) (h : Frames s0 st fi F) (hl : F.length < 900) (hj : i + 1 < 400) :
    ∃ st' x' y' z', Frames s0 st' fi (.br b [] :: F) ∧ ∀ n, PL (n + 1) ws l w1 fi i none x y z st = PL n ws l w1 fi (i + 1) none x' y' z' st' := by
  have hm : f_may_begin [.str (cond b "(" "["), .bl (narrow F)] st = .ok (.bl true) st := by rw [hn]; exact mb_ot (by cases b <;> decide +kernel) (by cases b <;> decide +kernel)
  obtain ⟨il, st', a1, a2⟩ := h.open_ hl b
  have il0 : isL (.obj fi) st = true := by obtain ⟨fs, bnd, g1, _⟩ := h.ex; exact isL_O g1
  have i1 : kInT false (.str (cond b "(" "[")) (.tup [.str "(", .str "["]) st = .ok (.bl true) st := in_ (l := ["(", "["]) (by cases b <;> decide +kernel)
  have hli : f_listed [wS ws, .int i, l, .obj fi, .str (cond b "(" "[")] st = .ok (.tup [.non, .int (i + 1 : Nat)]) st' := by
    rw [u_listed]
    cases b with
    | true =>
      simp only [cond_true] at hne a2 ⊢
      have d1 : decide (("(" : Str) = "(") = true := by decide +kernel
      simp only [b_listed, fin_rt, fin_nx, fin_exc, x_cons, thenS_nx, thenS_rt, thenS_ct, thenS_exc, x_nil, x_set, x_expr, x_ret, x_if, x_cont, x_asg, x_par, x_par3, x_for, x_loop0, outL_nx, outL_ct, outL_rt, x_raise, x_var, getV_some, x_c, x_e2, x_eT, asB_bl, x_and, x_or, x_not, x_vand, x_vor, x_vnot, x_ifE, x_chain, x_anil, x_acons, x_tup, x_lst, x_lstM, x_call, x_callD, x_CB, x_M0, x_M, x_neg, x_isi, x_iL, x_iT, asL_lst, asT_tup, x_gN, x_gT2, x_lc, x_lcEnd, x_lcEndM, x_lc0, nox_ok, x_yes, k_ii, k_eqS, k_eqI, k_lenL, k_lenT, k_tupL, k_tupT, k_lstT, k_lstS, k_int, at_0, at_1, at_2, at_3, toR_some, k_ixT, k_ixL, k_isNN, k_isNT, isS_S, x_dput, Res.bind_ok, Res.bind_exc, Res.bind_bad, List.getElem?_cons_zero, List.getElem?_cons_succ, List.set_cons_zero, List.set_cons_succ, List.length_cons, List.length_nil, if_true, if_false, Bool.false_eq_true, Bool.not_true, Bool.not_false, cond_true, cond_false, small, Nat.reduceAdd, Nat.reduceLeDiff, decide_true, decide_false, reduceCtorEq, reduceIte, d1, hne, word_at_ok h1 (by omega), succI, il, il0, a2]
    | false =>
      simp only [cond_false] at hne a2 ⊢
      have d1 : decide (("[" : Str) = "(") = false := by decide +kernel
      simp only [b_listed, fin_rt, fin_nx, fin_exc, x_cons, thenS_nx, thenS_rt, thenS_ct, thenS_exc, x_nil, x_set, x_expr, x_ret, x_if, x_cont, x_asg, x_par, x_par3, x_for, x_loop0, outL_nx, outL_ct, outL_rt, x_raise, x_var, getV_some, x_c, x_e2, x_eT, asB_bl, x_and, x_or, x_not, x_vand, x_vor, x_vnot, x_ifE, x_chain, x_anil, x_acons, x_tup, x_lst, x_lstM, x_call, x_callD, x_CB, x_M0, x_M, x_neg, x_isi, x_iL, x_iT, asL_lst, asT_tup, x_gN, x_gT2, x_lc, x_lcEnd, x_lcEndM, x_lc0, nox_ok, x_yes, k_ii, k_eqS, k_eqI, k_lenL, k_lenT, k_tupL, k_tupT, k_lstT, k_lstS, k_int, at_0, at_1, at_2, at_3, toR_some, k_ixT, k_ixL, k_isNN, k_isNT, isS_S, x_dput, Res.bind_ok, Res.bind_exc, Res.bind_bad, List.getElem?_cons_zero, List.getElem?_cons_succ, List.set_cons_zero, List.set_cons_succ, List.length_cons, List.length_nil, if_true, if_false, Bool.false_eq_true, Bool.not_true, Bool.not_false, cond_true, cond_false, small, Nat.reduceAdd, Nat.reduceLeDiff, decide_true, decide_false, reduceCtorEq, reduceIte, d1, hne, word_at_ok h1 (by omega), succI, il, il0, a2]
  refine ⟨st', some (.str (cond b "(" "[")), some .non, z, a1, fun n => ?_⟩
  unfold PL
  rw [x_while]
  simp only [wt_piece_from, wb_piece_from, optW, fin_rt, fin_nx, fin_exc, x_cons, thenS_nx, thenS_rt, thenS_ct, thenS_exc, x_nil, x_set, x_expr, x_ret, x_if, x_cont, x_asg, x_par, x_par3, x_for, x_loop0, outL_nx, outL_ct, outL_rt, x_raise, x_var, getV_some, x_c, x_e2, x_eT, asB_bl, x_and, x_or, x_not, x_vand, x_vor, x_vnot, x_ifE, x_chain, x_anil, x_acons, x_tup, x_lst, x_lstM, x_call, x_callD, x_CB, x_M0, x_M, x_neg, x_isi, x_iL, x_iT, asL_lst, asT_tup, x_gN, x_gT2, x_lc, x_lcEnd, x_lcEndM, x_lc0, nox_ok, x_yes, k_ii, k_eqS, k_eqI, k_lenL, k_lenT, k_tupL, k_tupT, k_lstT, k_lstS, k_int, at_0, at_1, at_2, at_3, toR_some, k_ixT, k_ixL, k_isNN, k_isNT, isS_S, x_dput, Res.bind_ok, Res.bind_exc, Res.bind_bad, List.getElem?_cons_zero, List.getElem?_cons_succ, List.set_cons_zero, List.set_cons_succ, List.length_cons, List.length_nil, if_true, if_false, Bool.false_eq_true, Bool.not_true, Bool.not_false, cond_true, cond_false, small, Nat.reduceAdd, Nat.reduceLeDiff, decide_true, decide_false, reduceCtorEq, reduceIte, word_at_ok h0 (by omega), is_narrow_ok h hl, hm, i1, hli]
end
/-! ### what may be read -/
def Pc.isB : Pc → Bool
  | .wait _ => true
  | .pre _ _ _ _ => true
  | _ => false
def Hd.tests : Hd → Bool
  | .alike => true
  | .unlike => true
  | _ => false
mutual
/-- branches where branches are asked -/
def Pc.rd : Pc → Prop
  | .sum b l => Pc.rdl b l ∧ l.length ≤ 1000
  | .wait p => p.rd
  | .nw _ p => p.rd
  | .call _ _ => True
  | .pre h _ _ p => p.rd ∧ (h.tests = true → p.isB = true)
def Pc.rdl (b : Bool) : List Pc → Prop
  | [] => True
  | p :: l => p.rd ∧ (b = true → p.isB = true) ∧ Pc.rdl b l
end
theorem t_first : ∀ p : Pc, ∃ wd r, p.t = wd :: r ∧ ∀ b : Bool, decide (wd = cond b ")" "]") = false
  | .sum b l => ⟨_, _, rfl, fun c => by cases b <;> cases c <;> decide +kernel⟩
  | .wait p => ⟨_, _, rfl, fun c => by cases c <;> decide +kernel⟩
  | .nw x p => ⟨_, _, rfl, fun c => by cases c <;> decide +kernel⟩
  | .call k ns => ⟨_, _, rfl, fun c => by cases c <;> decide +kernel⟩
  | .pre h x y p => ⟨_, _, rfl, fun c => by cases h <;> cases c <;> decide +kernel⟩
theorem wl_len : ∀ l : List Pc, (Pc.wl l).length = l.length
  | [] => rfl
  | p :: l => by simp [Pc.wl, wl_len l]
end K85
end
section
set_option Elab.async false
set_option linter.all false
set_option maxRecDepth 100000
set_option maxHeartbeats 1000000
/-! M8: pieces are read back. -/
namespace K85
open PySem Vl
theorem t_pos (p : Pc) : 0 < p.t.length := by
  obtain ⟨wd, r, e, _⟩ := t_first p
  rw [e]
  simp
def Reach (ws : List Str) (l w1 : W) (s0 : Store) (fi : Nat) (c i : Nat) (st : Store) (F' : List Fr) (o : Option Pc) (j : Nat) (x y z : Option W) : Prop :=
  ∃ m st' x' y' z', m ≤ c ∧ Frames s0 st' fi F' ∧ ∀ n, PL (n + m) ws l w1 fi i none x y z st = PL n ws l w1 fi j o x' y' z' st'
variable {ws : List Str} {l w1 : W} {s0 : Store} {fi : Nat}
theorem Reach.step {c i k : Nat} {st st1 : Store} {F' : List Fr} {o : Option Pc} {j : Nat} {x y z x1 y1 z1 : Option W} (h : Reach ws l w1 s0 fi c k st1 F' o j x1 y1 z1) (hs : ∀ n, PL (n + 1) ws l w1 fi i none x y z st = PL n ws l w1 fi k none x1 y1 z1 st1) : Reach ws l w1 s0 fi (c + 1) i st F' o j x y z := by
  obtain ⟨m, st', x', y', z', h1, h2, h3⟩ := h
  exact ⟨m + 1, st', x', y', z', by omega, h2, fun n => by rw [show n + (m + 1) = (n + m) + 1 by omega, hs, h3]⟩
theorem Reach.weaken {c c' i : Nat} {st : Store} {F' : List Fr} {o : Option Pc} {j : Nat} {x y z : Option W} (h : Reach ws l w1 s0 fi c i st F' o j x y z) (hc : c ≤ c') : Reach ws l w1 s0 fi c' i st F' o j x y z := by
  obtain ⟨m, st', x', y', z', h1, h2, h3⟩ := h
  exact ⟨m, st', x', y', z', by omega, h2, h3⟩
/-- one after the other -/
theorem Reach.then {c c' i k : Nat} {st : Store} {F1 F' : List Fr} {o : Option Pc} {j : Nat} {x y z : Option W} (h : Reach ws l w1 s0 fi c i st F1 none k x y z) (h' : ∀ st1 x1 y1 z1, Frames s0 st1 fi F1 → Reach ws l w1 s0 fi c' k st1 F' o j x1 y1 z1) : Reach ws l w1 s0 fi (c + c') i st F' o j x y z := by
  obtain ⟨m, st1, x1, y1, z1, h1, h2, h3⟩ := h
  obtain ⟨m', st', x', y', z', g1, g2, g3⟩ := h' st1 x1 y1 z1 h2
  exact ⟨m' + m, st', x', y', z', by omega, g2, fun n => by rw [show n + (m' + m) = (n + m') + m by omega, h3, g3]⟩
mutual
theorem reach : ∀ (p : Pc) {i j : Nat} {F F' : List Fr} {o : Option Pc} {st : Store} {x y z : Option W}, Has ws i p.t → (narrow F = true → p.isB = true) → p.nm → p.rd → Cl ws F p (i + p.t.length) F' o j → F.length + p.t.length < 900 → j < 400 → Frames s0 st fi F →
    Reach ws l w1 s0 fi p.t.length i st F' o j x y z
  | .sum b [], i, j, F, F', o, st, x, y, z, hw, hn, hm, hr, hc, hl, hj, h => by
    have hn' : narrow F = false := by
      cases e : narrow F
      · rfl
      · have := hn e; simp [Pc.isB] at this
    have hw' : Has ws i ([cond b "(" "[", cond b ")" "]"] : List Str) := hw
    obtain ⟨st', x', y', z', a1, a2⟩ := step_empty (l := l) (w1 := w1) (x := x) (y := y) (z := z) b hw'.head hw'.tail.head hn' hc h (by omega) hj
    exact ⟨1, st', x', y', z', t_pos _, a1, a2⟩
  | .sum b (q :: qs), i, j, F, F', o, st, x, y, z, hw, hn, hm, hr, hc, hl, hj, h => by
    have hij := hle hc
    have hn' : narrow F = false := by
      cases e : narrow F
      · rfl
      · have := hn e; simp [Pc.isB] at this
    have hw' : Has ws i (cond b "(" "[" :: (Pc.sepT (cond b "+" "/") (q :: qs) ++ ([cond b ")" "]"] : List Str))) := hw
    have e0 : (Pc.sum b (q :: qs)).t.length = (Pc.sepT (cond b "+" "/") (q :: qs)).length + 2 := by simp [Pc.t]
    obtain ⟨wd, r, e1, e2⟩ := t_first q
    have hw1 : ws[i + 1]? = some wd := by
      have := hw'.tail
      rw [Pc.sepT, e1] at this
      exact this.head
    rw [e0] at hc hij hl
    obtain ⟨st1, x1, y1, z1, a1, a2⟩ := step_open (l := l) (w1 := w1) (x := x) (y := y) (z := z) b hw'.head hw1 (e2 b) hn' h (by omega) (by omega)
    obtain ⟨hr1, hr2⟩ : Pc.rdl b (q :: qs) ∧ (q :: qs).length ≤ 1000 := hr
    have := reachL (q :: qs) b [] (i := i + 1) (j := j) (F := F) (F' := F') (o := o) (st := st1) (x := x1) (y := y1) (z := z1) (by simp) hw'.tail hm hr1 (by simpa using hr2) (by rw [List.nil_append, show i + 1 + ((Pc.sepT (cond b "+" "/") (q :: qs)).length + 1) = i + ((Pc.sepT (cond b "+" "/") (q :: qs)).length + 2) by omega]; exact hc) (by omega) hj a1
    exact (this.step a2).weaken (by rw [e0]; omega)
  | .wait p, i, j, F, F', o, st, x, y, z, hw, hn, hm, hr, hc, hl, hj, h => by
    have hij := hle hc
    have hw' : Has ws i ("wait" :: p.t) := hw
    have e0 : (Pc.wait p).t.length = p.t.length + 1 := by simp [Pc.t]
    rw [e0] at hc hij hl
    obtain ⟨st1, a1, a2⟩ := step_head (l := l) (w1 := w1) (x := x) (y := y) (z := z) .wait rfl (i + 1) hw'.head (by omega) h (by omega) (mb_br (by decide +kernel)) (by decide +kernel) (by decide +kernel) headed_wait
    have := reach p (i := i + 1) (j := j) (F := .wait :: F) (F' := F') (o := o) (st := st1) (x := some (.str "wait")) (y := some .non) (z := some (.tup Fr.wait.hd)) hw'.tail (fun e => by simp [narrow] at e) hm hr (.down rfl (by rw [show i + 1 + p.t.length = i + (p.t.length + 1) by omega]; exact hc)) (by simp; omega) hj a1
    exact (this.step a2).weaken (by rw [e0]; omega)
  | .nw u p, i, j, F, F', o, st, x, y, z, hw, hn, hm, hr, hc, hl, hj, h => by
    have hij := hle hc
    have hn' : narrow F = false := by
      cases e : narrow F
      · rfl
      · have := hn e; simp [Pc.isB] at this
    obtain ⟨hu, hm⟩ := hm
    have hw' : Has ws i ("new" :: letter u :: p.t) := hw
    have e0 : (Pc.nw u p).t.length = p.t.length + 2 := by simp [Pc.t]
    rw [e0] at hc hij hl
    obtain ⟨st1, a1, a2⟩ := step_head (l := l) (w1 := w1) (x := x) (y := y) (z := z) (.nw u) rfl (i + 2) hw'.head (by omega) h (by omega) (by rw [hn']; exact mb_ot (by decide +kernel) (by decide +kernel)) (by decide +kernel) (by decide +kernel) (headed_new hw'.tail.head (by omega) hu)
    have := reach p (i := i + 2) (j := j) (F := .nw u :: F) (F' := F') (o := o) (st := st1) (x := some (.str "new")) (y := some .non) (z := some (.tup (Fr.nw u).hd)) hw'.tail.tail (fun e => by simp [narrow] at e) hm hr (.down rfl (by rw [show i + 2 + p.t.length = i + (p.t.length + 2) by omega]; exact hc)) (by simp; omega) hj a1
    exact (this.step a2).weaken (by rw [e0]; omega)
  | .call k ns, i, j, F, F', o, st, x, y, z, hw, hn, hm, hr, hc, hl, hj, h => by
    have hn' : narrow F = false := by
      cases e : narrow F
      · rfl
      · have := hn e; simp [Pc.isB] at this
    obtain ⟨st', x', y', z', a1, a2⟩ := step_call (l := l) (w1 := w1) (x := x) (y := y) (z := z) hw hn' hm hc h (by omega) hj
    exact ⟨1, st', x', y', z', t_pos _, a1, a2⟩
  | .pre hd u v p, i, j, F, F', o, st, x, y, z, hw, hn, hm, hr, hc, hl, hj, h => by
    have hij := hle hc
    obtain ⟨hu, hv, hm⟩ := hm
    obtain ⟨hr, ht⟩ := hr
    have hw' : Has ws i (hd.w :: letter u :: letter v :: p.t) := hw
    have e0 : (Pc.pre hd u v p).t.length = p.t.length + 3 := by simp [Pc.t]
    rw [e0] at hc hij hl
    obtain ⟨st1, a1, a2⟩ := step_head (l := l) (w1 := w1) (x := x) (y := y) (z := z) (.pre hd u v) rfl (i + 3) hw'.head (by omega) h (by omega) (mb_br (by cases hd <;> decide +kernel)) (by cases hd <;> decide +kernel) (by cases hd <;> decide +kernel) (headed_pre hw'.tail.head hw'.tail.tail.head (by omega) hu hv)
    have := reach p (i := i + 3) (j := j) (F := .pre hd u v :: F) (F' := F') (o := o) (st := st1) (x := some (.str hd.w)) (y := some .non) (z := some (.tup (Fr.pre hd u v).hd)) hw'.tail.tail.tail (fun e => ht (by cases hd <;> first | rfl | (simp [narrow] at e))) hm hr (.down rfl (by rw [show i + 3 + p.t.length = i + (p.t.length + 3) by omega]; exact hc)) (by simp; omega) hj a1
    exact (this.step a2).weaken (by rw [e0]; omega)
theorem reachL : ∀ (ps : List Pc) (b : Bool) (done : List Pc) {i j : Nat} {F F' : List Fr} {o : Option Pc} {st : Store} {x y z : Option W}, ps ≠ [] → Has ws i (Pc.sepT (cond b "+" "/") ps ++ ([cond b ")" "]"] : List Str)) → Pc.nml ps → Pc.rdl b ps → done.length + ps.length ≤ 1000 → Cl ws F (.sum b (done ++ ps)) (i + ((Pc.sepT (cond b "+" "/") ps).length + 1)) F' o j → F.length + ((Pc.sepT (cond b "+" "/") ps).length + 1) < 900 → j < 400 → Frames s0 st fi (.br b done :: F) →
    Reach ws l w1 s0 fi ((Pc.sepT (cond b "+" "/") ps).length + 1) i st F' o j x y z
  | [], b, done, i, j, F, F', o, st, x, y, z, h0, hw, hm, hr, hd, hc, hl, hj, h => absurd rfl h0
  | [q], b, done, i, j, F, F', o, st, x, y, z, h0, hw, hm, hr, hd, hc, hl, hj, h => by
    have e0 : Pc.sepT (cond b "+" "/") [q] = q.t := by simp [Pc.sepT, Pc.restT]
    rw [e0] at hw hc hl
    have hw2 := hw.right.head
    have := reach q (i := i) (j := j) (F := .br b done :: F) (F' := F') (o := o) (st := st) (x := x) (y := y) (z := z) hw.left hr.2.1 hm.1 hr.1 (.end_ (by rw [wl_len]; simp at hd; omega) hw2 hc) (by simp; omega) hj h
    exact this.weaken (by rw [e0]; omega)
  | q :: q' :: qs, b, done, i, j, F, F', o, st, x, y, z, h0, hw, hm, hr, hd, hc, hl, hj, h => by
    have e0 : Pc.sepT (cond b "+" "/") (q :: q' :: qs) = q.t ++ (cond b "+" "/" : Str) :: Pc.sepT (cond b "+" "/") (q' :: qs) := by simp [Pc.sepT, Pc.restT]
    have e1 : (Pc.sepT (cond b "+" "/") (q :: q' :: qs)).length = q.t.length + (Pc.sepT (cond b "+" "/") (q' :: qs)).length + 1 := by rw [e0]; simp; omega
    rw [e1] at hc hl
    rw [e0, List.append_assoc, List.cons_append] at hw
    have hij := hle hc
    have hw2 := hw.right
    simp only [List.length_cons] at hd
    have r1 := reach q (i := i) (j := i + q.t.length + 1) (F := .br b done :: F) (F' := .br b (done ++ [q]) :: F) (o := none) (st := st) (x := x) (y := y) (z := z) hw.left hr.2.1 hm.1 hr.1 (.more (by rw [wl_len]; omega) hw2.head) (by simp; omega) (by omega) h
    have r2 : ∀ st1 x1 y1 z1, Frames s0 st1 fi (.br b (done ++ [q]) :: F) → Reach ws l w1 s0 fi ((Pc.sepT (cond b "+" "/") (q' :: qs)).length + 1) (i + q.t.length + 1) st1 F' o j x1 y1 z1 := fun st1 x1 y1 z1 h1 =>
      reachL (q' :: qs) b (done ++ [q]) (i := i + q.t.length + 1) (j := j) (F := F) (F' := F') (o := o) (st := st1) (x := x1) (y := y1) (z := z1) (by simp) hw2.tail hm.2 hr.2.2 (by simp; omega)
        (by rw [List.append_assoc, List.singleton_append, show i + q.t.length + 1 + ((Pc.sepT (cond b "+" "/") (q' :: qs)).length + 1) = i + (q.t.length + (Pc.sepT (cond b "+" "/") (q' :: qs)).length + 1 + 1) by omega]; exact hc) (by omega) hj h1
    exact (r1.then r2).weaken (by rw [e1]; omega)
end
/-- a piece stands from i on: it is read -/
theorem piece_from_ok {p : Pc} {i : Nat} {st : Store} (hw : Has ws i p.t) (hm : p.nm) (hr : p.rd) (hi : i + p.t.length < 400) :
    ∃ st', Grew st st' ∧ f_piece_from [wS ws, .int i, l] st = .ok (.tup [p.w, .int (i + p.t.length : Nat)]) st' := by
  have hF : Frames st (st ++ [MO.L []]) st.length [] := ⟨⟨[], st.length + 1, by simp, by omega, by simp, True.intro⟩, Grew.refl.push rfl, Nat.le_refl _⟩
  obtain ⟨m, st', x', y', z', h1, h2, h3⟩ := reach (ws := ws) (l := l) (w1 := .int i) (s0 := st) (fi := st.length) p (i := i) (j := i + p.t.length) (F := []) (F' := []) (o := some p) (x := none) (y := none) (z := none) hw (fun e => by simp [narrow] at e) hm hr .done (by simp; omega) hi hF
  refine ⟨st', h2.grew, ?_⟩
  obtain ⟨n, e⟩ : ∃ n, 1000 = (n + 1) + m := ⟨999 - m, by omega⟩
  have e1 := h3 (n + 1)
  rw [← e] at e1
  have e2 : PL (n + 1) ws l (.int i) st.length (i + p.t.length) (some p) x' y' z' st' = .ok (.nx [some (wS ws), some (.int i), some l, some (.obj st.length), some (.int (i + p.t.length : Nat)), some p.w, x', y', z']) st' := by
    unfold PL
    rw [x_while]
    simp only [wt_piece_from, optW, fin_rt, fin_nx, fin_exc, x_cons, thenS_nx, thenS_rt, thenS_ct, thenS_exc, x_nil, x_set, x_expr, x_ret, x_if, x_cont, x_asg, x_par, x_par3, x_for, x_loop0, outL_nx, outL_ct, outL_rt, x_raise, x_var, getV_some, x_c, x_e2, x_eT, asB_bl, x_and, x_or, x_not, x_vand, x_vor, x_vnot, x_ifE, x_chain, x_anil, x_acons, x_tup, x_lst, x_lstM, x_call, x_callD, x_CB, x_M0, x_M, x_neg, x_isi, x_iL, x_iT, asL_lst, asT_tup, x_gN, x_gT2, x_lc, x_lcEnd, x_lcEndM, x_lc0, nox_ok, x_yes, k_ii, k_eqS, k_eqI, k_lenL, k_lenT, k_tupL, k_tupT, k_lstT, k_lstS, k_int, at_0, at_1, at_2, at_3, toR_some, k_ixT, k_ixL, k_isNN, k_isNT, isS_S, x_dput, Res.bind_ok, Res.bind_exc, Res.bind_bad, List.getElem?_cons_zero, List.getElem?_cons_succ, List.set_cons_zero, List.set_cons_succ, List.length_cons, List.length_nil, if_true, if_false, Bool.false_eq_true, Bool.not_true, Bool.not_false, cond_true, cond_false, small, Nat.reduceAdd, Nat.reduceLeDiff, decide_true, decide_false, reduceCtorEq, reduceIte, k_isP]
  rw [e2] at e1
  unfold PL at e1
  simp only [optW] at e1
  rw [u_piece_from]
  simp only [b_piece_from, fin_rt, fin_nx, fin_exc, x_cons, thenS_nx, thenS_rt, thenS_ct, thenS_exc, x_nil, x_set, x_expr, x_ret, x_if, x_cont, x_asg, x_par, x_par3, x_for, x_loop0, outL_nx, outL_ct, outL_rt, x_raise, x_var, getV_some, x_c, x_e2, x_eT, asB_bl, x_and, x_or, x_not, x_vand, x_vor, x_vnot, x_ifE, x_chain, x_anil, x_acons, x_tup, x_lst, x_lstM, x_call, x_callD, x_CB, x_M0, x_M, x_neg, x_isi, x_iL, x_iT, asL_lst, asT_tup, x_gN, x_gT2, x_lc, x_lcEnd, x_lcEndM, x_lc0, nox_ok, x_yes, k_ii, k_eqS, k_eqI, k_lenL, k_lenT, k_tupL, k_tupT, k_lstT, k_lstS, k_int, at_0, at_1, at_2, at_3, toR_some, k_ixT, k_ixL, k_isNN, k_isNT, isS_S, x_dput, Res.bind_ok, Res.bind_exc, Res.bind_bad, List.getElem?_cons_zero, List.getElem?_cons_succ, List.set_cons_zero, List.set_cons_succ, List.length_cons, List.length_nil, if_true, if_false, Bool.false_eq_true, Bool.not_true, Bool.not_false, cond_true, cond_false, small, Nat.reduceAdd, Nat.reduceLeDiff, decide_true, decide_false, reduceCtorEq, reduceIte]
  rw [e1]
  simp only [fin_rt, fin_nx, fin_exc, x_cons, thenS_nx, thenS_rt, thenS_ct, thenS_exc, x_nil, x_set, x_expr, x_ret, x_if, x_cont, x_asg, x_par, x_par3, x_for, x_loop0, outL_nx, outL_ct, outL_rt, x_raise, x_var, getV_some, x_c, x_e2, x_eT, asB_bl, x_and, x_or, x_not, x_vand, x_vor, x_vnot, x_ifE, x_chain, x_anil, x_acons, x_tup, x_lst, x_lstM, x_call, x_callD, x_CB, x_M0, x_M, x_neg, x_isi, x_iL, x_iT, asL_lst, asT_tup, x_gN, x_gT2, x_lc, x_lcEnd, x_lcEndM, x_lc0, nox_ok, x_yes, k_ii, k_eqS, k_eqI, k_lenL, k_lenT, k_tupL, k_tupT, k_lstT, k_lstS, k_int, at_0, at_1, at_2, at_3, toR_some, k_ixT, k_ixL, k_isNN, k_isNT, isS_S, x_dput, Res.bind_ok, Res.bind_exc, Res.bind_bad, List.getElem?_cons_zero, List.getElem?_cons_succ, List.set_cons_zero, List.set_cons_succ, List.length_cons, List.length_nil, if_true, if_false, Bool.false_eq_true, Bool.not_true, Bool.not_false, cond_true, cond_false, small, Nat.reduceAdd, Nat.reduceLeDiff, decide_true, decide_false, reduceCtorEq, reduceIte]
end K85
end
section
set_option Elab.async false
set_option linter.all false
set_option maxRecDepth 100000
set_option maxHeartbeats 1000000
/-! M9: a program's words, by the law and by the program; a program is read back. -/
namespace K85
open PySem Vl
abbrev Dn := List Nat × Pc
def Dn.w (d : Dn) : W := .tup [.tup (d.1.map nat), d.2.w]
def Dn.t (d : Dn) : List Str := "def" :: "(" :: (d.1.map letter ++ (([")"] : List Str) ++ (d.2.t ++ ([";"] : List Str))))
def dsT (D : List Dn) : List Str := D.flatMap Dn.t
def prW (D : List Dn) (m : Pc) : W := .tup [.tup (D.map Dn.w), m.w]
def prT (D : List Dn) (m : Pc) : List Str := dsT D ++ m.t
structure Dn.ok (d : Dn) : Prop where
  ps : ∀ n ∈ d.1, n < 10
  len : d.1.length ≤ 400
  nm : d.2.nm
  rd : d.2.rd
  dp : d.2.d < 20
abbrev pl (d : Dn) : List Str := "(" :: (d.1.map letter ++ ([")"] : List Str))
theorem dsT_cons (d : Dn) (D : List Dn) : dsT (d :: D) = d.t ++ dsT D := by simp [dsT]
theorem t_len (d : Dn) : d.t.length = d.1.length + d.2.t.length + 4 := by simp [Dn.t]; omega
theorem pw_loop {st : Store} {a : W} : ∀ (D : List Dn) (acc : List Str) (x y : Option W), (∀ d ∈ D, d.ok) → acc.length + (dsT D).length ≤ 100000 →
    ∃ x' y', sLoop (gT 2 (gsCons (gN 2) (gsCons (gN 3) gsNil))) (sSet 1 (e2 kCat (e2 kCat (e2 kCat (e2 kCat (eVar 1) (eLst (aCons (eC (.str "def")) aNil))) (eCall 1 f_letters_of (aCons (eVar 2) aNil))) (eCall 1 (f_piece_words 20) (aCons (eVar 3) aNil))) (eLst (aCons (eC (.str ";")) aNil)))) (D.map Dn.w) [some a, some (wS acc), x, y] st
      = .ok (.nx [some a, some (wS (acc ++ dsT D)), x', y']) st
  | [], acc, x, y, _, _ => ⟨x, y, by simp [x_loop0, dsT]⟩
  | d :: D, acc, x, y, h, hl => by
    have hd := h d (List.mem_cons_self ..)
    rw [dsT_cons, List.length_append, t_len] at hl
    have e1 := letters_of_ok (st := st) hd.ps (by omega)
    have e2' := pwords_ok 20 d.2 st hd.dp hd.nm (by omega)
    have c1 := cat_ok (st := st) (a := acc) (b := [("def" : Str)]) (by simp; omega)
    have c2 := cat_ok (st := st) (a := acc ++ [("def" : Str)]) (b := pl d) (by simp; omega)
    have c3 := cat_ok (st := st) (a := acc ++ [("def" : Str)] ++ pl d) (b := d.2.t) (by simp; omega)
    have c4 := cat_ok (st := st) (a := acc ++ [("def" : Str)] ++ pl d ++ d.2.t) (b := [(";" : Str)]) (by simp; omega)
    obtain ⟨x', y', e⟩ := pw_loop (st := st) (a := a) D (acc ++ d.t) (some (.tup (d.1.map nat))) (some d.2.w) (fun z hz => h z (List.mem_cons_of_mem _ hz)) (by simp [t_len]; omega)
    refine ⟨x', y', ?_⟩
    rw [List.map_cons]
    simp only [Dn.w, x_loop, fin_rt, fin_nx, fin_exc, x_cons, thenS_nx, thenS_rt, thenS_ct, thenS_exc, x_nil, x_set, x_expr, x_ret, x_if, x_cont, x_asg, x_par, x_par3, x_for, x_loop0, outL_nx, outL_ct, outL_rt, x_raise, x_var, getV_some, x_c, x_e2, x_eT, asB_bl, x_and, x_or, x_not, x_vand, x_vor, x_vnot, x_ifE, x_chain, x_anil, x_acons, x_tup, x_lst, x_lstM, x_call, x_callD, x_CB, x_M0, x_M, x_neg, x_isi, x_iL, x_iT, asL_lst, asT_tup, x_gN, x_gT2, x_lc, x_lcEnd, x_lcEndM, x_lc0, nox_ok, x_yes, k_ii, k_eqS, k_eqI, k_lenL, k_lenT, k_tupL, k_tupT, k_lstT, k_lstS, k_int, at_0, at_1, at_2, at_3, toR_some, k_ixT, k_ixL, k_isNN, k_isNT, isS_S, x_dput, Res.bind_ok, Res.bind_exc, Res.bind_bad, List.getElem?_cons_zero, List.getElem?_cons_succ, List.set_cons_zero, List.set_cons_succ, List.length_cons, List.length_nil, if_true, if_false, Bool.false_eq_true, Bool.not_true, Bool.not_false, cond_true, cond_false, small, Nat.reduceAdd, Nat.reduceLeDiff, decide_true, decide_false, reduceCtorEq, reduceIte, one_, e1, e2', c1, c2, c3, c4]
    have q : acc ++ [("def" : Str)] ++ pl d ++ d.2.t ++ [(";" : Str)] = acc ++ d.t := by simp [Dn.t]
    rw [q, e, dsT_cons, List.append_assoc]
theorem program_words_ok {D : List Dn} {m : Pc} {st : Store} (h : ∀ d ∈ D, d.ok) (hm : m.nm) (hd : m.d < 20) (hl : (prT D m).length ≤ 10000) : f_program_words [prW D m] st = .ok (wS (prT D m)) st := by
  simp only [prT, List.length_append] at hl
  obtain ⟨x', y', e⟩ := pw_loop (st := st) (a := prW D m) D [] none none h (by simp; omega)
  have e2' := pwords_ok 20 m st hd hm (by omega)
  have c1 := cat_ok (st := st) (a := dsT D) (b := m.t) (by omega)
  simp only [List.nil_append, prW] at e
  rw [u_program_words]
  simp only [b_program_words, prW, fin_rt, fin_nx, fin_exc, x_cons, thenS_nx, thenS_rt, thenS_ct, thenS_exc, x_nil, x_set, x_expr, x_ret, x_if, x_cont, x_asg, x_par, x_par3, x_for, x_loop0, outL_nx, outL_ct, outL_rt, x_raise, x_var, getV_some, x_c, x_e2, x_eT, asB_bl, x_and, x_or, x_not, x_vand, x_vor, x_vnot, x_ifE, x_chain, x_anil, x_acons, x_tup, x_lst, x_lstM, x_call, x_callD, x_CB, x_M0, x_M, x_neg, x_isi, x_iL, x_iT, asL_lst, asT_tup, x_gN, x_gT2, x_lc, x_lcEnd, x_lcEndM, x_lc0, nox_ok, x_yes, k_ii, k_eqS, k_eqI, k_lenL, k_lenT, k_tupL, k_tupT, k_lstT, k_lstS, k_int, at_0, at_1, at_2, at_3, toR_some, k_ixT, k_ixL, k_isNN, k_isNT, isS_S, x_dput, Res.bind_ok, Res.bind_exc, Res.bind_bad, List.getElem?_cons_zero, List.getElem?_cons_succ, List.set_cons_zero, List.set_cons_succ, List.length_cons, List.length_nil, if_true, if_false, Bool.false_eq_true, Bool.not_true, Bool.not_false, cond_true, cond_false, small, Nat.reduceAdd, Nat.reduceLeDiff, decide_true, decide_false, reduceCtorEq, reduceIte, nil_, e, e2', c1, prT]
theorem lw_loop {st : Store} {a : W} : ∀ (D : List Dn) (acc : List Str) (x y z : Option W), (∀ d ∈ D, d.ok) → acc.length + (dsT D).length ≤ 100000 →
    ∃ x' y', sLoop (gT 2 (gsCons (gN 2) (gsCons (gN 3) gsNil))) (sCons (sSet 1 (e2 kCat (e2 kCat (e2 kCat (eVar 1) (eLst (aCons (eC (.str "def")) (aCons (eC (.str "(")) aNil)))) (eLc false (iT (eVar 2)) (gN 4) bYes (eCall 1 f__law_letter (aCons (eVar 4) aNil)))) (eLst (aCons (eC (.str ")")) aNil)))) (sSet 1 (e2 kCat (e2 kCat (eVar 1) (eCall 1 (f__law_words_of 20) (aCons (eVar 3) aNil))) (eLst (aCons (eC (.str ";")) aNil))))) (D.map Dn.w) [some a, some (wS acc), x, y, z] st
      = .ok (.nx [some a, some (wS (acc ++ dsT D)), x', y', z]) st
  | [], acc, x, y, z, _, _ => ⟨x, y, by simp [x_loop0, dsT]⟩
  | d :: D, acc, x, y, z, h, hl => by
    have hd := h d (List.mem_cons_self ..)
    rw [dsT_cons, List.length_append, t_len] at hl
    have ml := lc_map nat (fun n => W.str (letter n)) [some a, some (wS acc), some (.tup (d.1.map nat)), some d.2.w, z] 4 (eCall 1 f__law_letter (aCons (eVar 4) aNil)) st d.1 [] (fun x hx => by
      simp only [nat, fin_rt, fin_nx, fin_exc, x_cons, thenS_nx, thenS_rt, thenS_ct, thenS_exc, x_nil, x_set, x_expr, x_ret, x_if, x_cont, x_asg, x_par, x_par3, x_for, x_loop0, outL_nx, outL_ct, outL_rt, x_raise, x_var, getV_some, x_c, x_e2, x_eT, asB_bl, x_and, x_or, x_not, x_vand, x_vor, x_vnot, x_ifE, x_chain, x_anil, x_acons, x_tup, x_lst, x_lstM, x_call, x_callD, x_CB, x_M0, x_M, x_neg, x_isi, x_iL, x_iT, asL_lst, asT_tup, x_gN, x_gT2, x_lc, x_lcEnd, x_lcEndM, x_lc0, nox_ok, x_yes, k_ii, k_eqS, k_eqI, k_lenL, k_lenT, k_tupL, k_tupT, k_lstT, k_lstS, k_int, at_0, at_1, at_2, at_3, toR_some, k_ixT, k_ixL, k_isNN, k_isNT, isS_S, x_dput, Res.bind_ok, Res.bind_exc, Res.bind_bad, List.getElem?_cons_zero, List.getElem?_cons_succ, List.set_cons_zero, List.set_cons_succ, List.length_cons, List.length_nil, if_true, if_false, Bool.false_eq_true, Bool.not_true, Bool.not_false, cond_true, cond_false, small, Nat.reduceAdd, Nat.reduceLeDiff, decide_true, decide_false, reduceCtorEq, reduceIte, law_letter_ok (hd.ps x hx)]) (by simp; omega)
    rw [List.nil_append, map_letters] at ml
    have e2' := lwords_ok 20 d.2 st hd.dp hd.nm (by omega)
    have c1 := cat_ok (st := st) (a := acc) (b := [("def" : Str), "("]) (by simp; omega)
    have c2 := cat_ok (st := st) (a := acc ++ [("def" : Str), "("]) (b := d.1.map letter) (by simp; omega)
    have c3 := cat_ok (st := st) (a := acc ++ [("def" : Str), "("] ++ d.1.map letter) (b := [(")" : Str)]) (by simp; omega)
    have c4 := cat_ok (st := st) (a := acc ++ [("def" : Str), "("] ++ d.1.map letter ++ [(")" : Str)]) (b := d.2.t) (by simp; omega)
    have c5 := cat_ok (st := st) (a := acc ++ [("def" : Str), "("] ++ d.1.map letter ++ [(")" : Str)] ++ d.2.t) (b := [(";" : Str)]) (by simp; omega)
    obtain ⟨x', y', e⟩ := lw_loop (st := st) (a := a) D (acc ++ d.t) (some (.tup (d.1.map nat))) (some d.2.w) z (fun z hz => h z (List.mem_cons_of_mem _ hz)) (by simp [t_len]; omega)
    refine ⟨x', y', ?_⟩
    rw [List.map_cons]
    simp only [Dn.w, x_loop, fin_rt, fin_nx, fin_exc, x_cons, thenS_nx, thenS_rt, thenS_ct, thenS_exc, x_nil, x_set, x_expr, x_ret, x_if, x_cont, x_asg, x_par, x_par3, x_for, x_loop0, outL_nx, outL_ct, outL_rt, x_raise, x_var, getV_some, x_c, x_e2, x_eT, asB_bl, x_and, x_or, x_not, x_vand, x_vor, x_vnot, x_ifE, x_chain, x_anil, x_acons, x_tup, x_lst, x_lstM, x_call, x_callD, x_CB, x_M0, x_M, x_neg, x_isi, x_iL, x_iT, asL_lst, asT_tup, x_gN, x_gT2, x_lc, x_lcEnd, x_lcEndM, x_lc0, nox_ok, x_yes, k_ii, k_eqS, k_eqI, k_lenL, k_lenT, k_tupL, k_tupT, k_lstT, k_lstS, k_int, at_0, at_1, at_2, at_3, toR_some, k_ixT, k_ixL, k_isNN, k_isNT, isS_S, x_dput, Res.bind_ok, Res.bind_exc, Res.bind_bad, List.getElem?_cons_zero, List.getElem?_cons_succ, List.set_cons_zero, List.set_cons_succ, List.length_cons, List.length_nil, if_true, if_false, Bool.false_eq_true, Bool.not_true, Bool.not_false, cond_true, cond_false, small, Nat.reduceAdd, Nat.reduceLeDiff, decide_true, decide_false, reduceCtorEq, reduceIte, one_, two_, ml, e2', c1, c2, c3, c4, c5]
    have q : acc ++ [("def" : Str), "("] ++ d.1.map letter ++ [(")" : Str)] ++ d.2.t ++ [(";" : Str)] = acc ++ d.t := by simp [Dn.t]
    rw [q, e, dsT_cons, List.append_assoc]
theorem law_words_ok {D : List Dn} {m : Pc} {st : Store} (h : ∀ d ∈ D, d.ok) (hm : m.nm) (hd : m.d < 20) (hl : (prT D m).length ≤ 10000) : f__law_words [prW D m] st = .ok (wS (prT D m)) st := by
  simp only [prT, List.length_append] at hl
  obtain ⟨x', y', e⟩ := lw_loop (st := st) (a := prW D m) D [] none none none h (by simp; omega)
  have e2' := lwords_ok 20 m st hd hm (by omega)
  have c1 := cat_ok (st := st) (a := dsT D) (b := m.t) (by omega)
  simp only [List.nil_append, prW] at e
  rw [u__law_words]
  simp only [b__law_words, prW, fin_rt, fin_nx, fin_exc, x_cons, thenS_nx, thenS_rt, thenS_ct, thenS_exc, x_nil, x_set, x_expr, x_ret, x_if, x_cont, x_asg, x_par, x_par3, x_for, x_loop0, outL_nx, outL_ct, outL_rt, x_raise, x_var, getV_some, x_c, x_e2, x_eT, asB_bl, x_and, x_or, x_not, x_vand, x_vor, x_vnot, x_ifE, x_chain, x_anil, x_acons, x_tup, x_lst, x_lstM, x_call, x_callD, x_CB, x_M0, x_M, x_neg, x_isi, x_iL, x_iT, asL_lst, asT_tup, x_gN, x_gT2, x_lc, x_lcEnd, x_lcEndM, x_lc0, nox_ok, x_yes, k_ii, k_eqS, k_eqI, k_lenL, k_lenT, k_tupL, k_tupT, k_lstT, k_lstS, k_int, at_0, at_1, at_2, at_3, toR_some, k_ixT, k_ixL, k_isNN, k_isNT, isS_S, x_dput, Res.bind_ok, Res.bind_exc, Res.bind_bad, List.getElem?_cons_zero, List.getElem?_cons_succ, List.set_cons_zero, List.set_cons_succ, List.length_cons, List.length_nil, if_true, if_false, Bool.false_eq_true, Bool.not_true, Bool.not_false, cond_true, cond_false, small, Nat.reduceAdd, Nat.reduceLeDiff, decide_true, decide_false, reduceCtorEq, reduceIte, nil_, e, e2', c1, prT]
/-! ### reading -/
theorem t_first2 : ∀ p : Pc, ∃ wd r, p.t = wd :: r ∧ decide (wd = "def") = false
  | .sum b l => ⟨_, _, rfl, by cases b <;> decide +kernel⟩
  | .wait p => ⟨_, _, rfl, by decide +kernel⟩
  | .nw x p => ⟨_, _, rfl, by decide +kernel⟩
  | .call k ns => ⟨_, _, rfl, by decide +kernel⟩
  | .pre h x y p => ⟨_, _, rfl, by cases h <;> decide +kernel⟩
theorem defs_loop {ws : List Str} {l w1 : W} {s0 : Store} {k : Nat} {m : Pc} (hk : s0.length ≤ k) : ∀ (D : List Dn) (dn : List W) (n i : Nat) (st : Store) (x y z : Option W), D.length < n → dn.length + D.length ≤ 1000 → (∀ d ∈ D, d.ok) → Has ws i (dsT D ++ m.t) → i + (dsT D ++ m.t).length < 400 → Grew s0 st → st[k]? = some (.L dn) →
    ∃ st' x' y', Grew s0 st' ∧ st'[k]? = some (.L (dn ++ D.map Dn.w)) ∧
      sWhile n wt_program_from wb_program_from [some (wS ws), some w1, some l, some (.int i), some (.obj k), x, y, z] st = .ok (.nx [some (wS ws), some w1, some l, some (.int (i + (dsT D).length : Nat)), some (.obj k), x', y', z]) st'
  | [], dn, n + 1, i, st, x, y, z, _, _, _, hw, hi, hg, h => by
    obtain ⟨wd, r, e1, e2⟩ := t_first2 m
    refine ⟨st, x, y, hg, by simpa using h, ?_⟩
    simp only [dsT, List.flatMap_nil, List.nil_append, e1] at hw hi
    rw [x_while]
    simp only [wt_program_from, fin_rt, fin_nx, fin_exc, x_cons, thenS_nx, thenS_rt, thenS_ct, thenS_exc, x_nil, x_set, x_expr, x_ret, x_if, x_cont, x_asg, x_par, x_par3, x_for, x_loop0, outL_nx, outL_ct, outL_rt, x_raise, x_var, getV_some, x_c, x_e2, x_eT, asB_bl, x_and, x_or, x_not, x_vand, x_vor, x_vnot, x_ifE, x_chain, x_anil, x_acons, x_tup, x_lst, x_lstM, x_call, x_callD, x_CB, x_M0, x_M, x_neg, x_isi, x_iL, x_iT, asL_lst, asT_tup, x_gN, x_gT2, x_lc, x_lcEnd, x_lcEndM, x_lc0, nox_ok, x_yes, k_ii, k_eqS, k_eqI, k_lenL, k_lenT, k_tupL, k_tupT, k_lstT, k_lstS, k_int, at_0, at_1, at_2, at_3, toR_some, k_ixT, k_ixL, k_isNN, k_isNT, isS_S, x_dput, Res.bind_ok, Res.bind_exc, Res.bind_bad, List.getElem?_cons_zero, List.getElem?_cons_succ, List.set_cons_zero, List.set_cons_succ, List.length_cons, List.length_nil, if_true, if_false, Bool.false_eq_true, Bool.not_true, Bool.not_false, cond_true, cond_false, small, Nat.reduceAdd, Nat.reduceLeDiff, decide_true, decide_false, reduceCtorEq, reduceIte, word_at_ok hw.head (by omega), e2, dsT, List.flatMap_nil, Nat.add_zero]
  | d :: D, dn, n + 1, i, st, x, y, z, hn, hd, hD, hw, hi, hg, h => by
    simp only [List.length_cons] at hn hd
    have hd0 := hD d (List.mem_cons_self ..)
    have e0 : dsT (d :: D) ++ m.t = ("def" : Str) :: (pl d ++ (d.2.t ++ ((";" : Str) :: (dsT D ++ m.t)))) := by rw [dsT_cons]; simp [Dn.t]
    have e1 : (dsT (d :: D)).length = d.1.length + d.2.t.length + 4 + (dsT D).length := by rw [dsT_cons, List.length_append, t_len]
    rw [List.length_append, e1] at hi
    rw [e0] at hw
    have w1' := hw.tail.left
    have w2 := hw.tail.right.left
    have w3 := hw.tail.right.right
    have el : (pl d).length = d.1.length + 2 := by simp
    rw [el] at w2 w3
    have f1 := letters_at_ok (l := l) (st := st) w1' (by omega) hd0.ps
    have hlt : k < st.length := (List.getElem?_eq_some_iff.mp h).1
    have d1 : decide (("def" : Str) = "def") = true := by decide +kernel
    obtain ⟨st2, g2, f2⟩ := piece_from_ok (l := l) (st := st ++ [.L (d.1.map nat)]) (p := d.2) w2 hd0.nm hd0.rd (by omega)
    have h2 : st2[k]? = some (.L dn) := g2.get (by rw [List.getElem?_append_left hlt]; exact h)
    have hlt2 : k < st2.length := (List.getElem?_eq_some_iff.mp h2).1
    have il : isL (.obj k) st2 = true := isL_O h2
    have f4 : kAppend (.obj k) [d.w] st2 = .ok .non (st2.set k (.L (dn ++ [d.w]))) := k_app h2 (by omega)
    obtain ⟨st', x', y', a1, a2, a3⟩ := defs_loop (ws := ws) (l := l) (w1 := w1) (s0 := s0) (k := k) (m := m) hk D (dn ++ [d.w]) n (i + 1 + (d.1.length + 2) + d.2.t.length + 1) (st2.set k (.L (dn ++ [d.w]))) (some (.tup (d.1.map nat))) (some d.2.w) z (by omega) (by simp; omega) (fun z hz => hD z (List.mem_cons_of_mem _ hz)) w3.tail (by simp; omega)
      ((hg.push rfl |>.trans g2).set hk rfl) (by rw [List.getElem?_set_self hlt2])
    refine ⟨st', x', y', a1, by rw [a2]; simp, ?_⟩
    rw [x_while]
    have q1 : i + 1 + d.1.length + 2 = i + 1 + (d.1.length + 2) := by omega
    simp only [Dn.w] at f4 a3
    rw [q1] at f1
    simp only [wt_program_from, wb_program_from, fin_rt, fin_nx, fin_exc, x_cons, thenS_nx, thenS_rt, thenS_ct, thenS_exc, x_nil, x_set, x_expr, x_ret, x_if, x_cont, x_asg, x_par, x_par3, x_for, x_loop0, outL_nx, outL_ct, outL_rt, x_raise, x_var, getV_some, x_c, x_e2, x_eT, asB_bl, x_and, x_or, x_not, x_vand, x_vor, x_vnot, x_ifE, x_chain, x_anil, x_acons, x_tup, x_lst, x_lstM, x_call, x_callD, x_CB, x_M0, x_M, x_neg, x_isi, x_iL, x_iT, asL_lst, asT_tup, x_gN, x_gT2, x_lc, x_lcEnd, x_lcEndM, x_lc0, nox_ok, x_yes, k_ii, k_eqS, k_eqI, k_lenL, k_lenT, k_tupL, k_tupT, k_lstT, k_lstS, k_int, at_0, at_1, at_2, at_3, toR_some, k_ixT, k_ixL, k_isNN, k_isNT, isS_S, x_dput, Res.bind_ok, Res.bind_exc, Res.bind_bad, List.getElem?_cons_zero, List.getElem?_cons_succ, List.set_cons_zero, List.set_cons_succ, List.length_cons, List.length_nil, if_true, if_false, Bool.false_eq_true, Bool.not_true, Bool.not_false, cond_true, cond_false, small, Nat.reduceAdd, Nat.reduceLeDiff, decide_true, decide_false, reduceCtorEq, reduceIte, word_at_ok hw.head (by omega), d1, succI, f1, f2, need_word_ok w3.head (by omega), il, f4]
    refine a3.trans ?_
    rw [e1, show i + 1 + (d.1.length + 2) + d.2.t.length + 1 + (dsT D).length = i + (d.1.length + d.2.t.length + 4 + (dsT D).length) by omega]
theorem program_from_ok {D : List Dn} {m : Pc} {l : W} {st : Store} (h : ∀ d ∈ D, d.ok) (hm : m.nm) (hr : m.rd) (hl : (prT D m).length < 400) :
    ∃ st', Grew st st' ∧ f_program_from [wS (prT D m), .int 0, l] st = .ok (prW D m) st' := by
  have hD : D.length ≤ (dsT D).length := by
    clear h hl
    induction D with
    | nil => simp
    | cons d D ih => rw [dsT_cons, List.length_append, t_len]; simp; omega
  have hl' := hl
  simp only [prT, List.length_append] at hl'
  have hw : Has (prT D m) 0 (dsT D ++ m.t) := ⟨[], by simp [prT]⟩
  obtain ⟨st1, x', y', a1, a2, a3⟩ := defs_loop (ws := prT D m) (l := l) (w1 := .int 0) (s0 := st) (k := st.length) (m := m) (Nat.le_refl _) D [] 1000 0 (st ++ [.L []]) none none none (by omega) (by simp; omega) h hw (by simp; omega) (Grew.refl.push rfl) top_get
  obtain ⟨st2, g2, f2⟩ := piece_from_ok (l := l) (st := st1) (p := m) (i := 0 + (dsT D).length) hw.right hm hr (by omega)
  have h2 := g2.get a2
  have f3 : kTuple [.obj st.length] st2 = .ok (.tup (D.map Dn.w)) st2 := by rw [k_tupO h2, List.nil_append]
  refine ⟨st2, a1.trans g2, ?_⟩
  have ne := need_end_ok (ws := prT D m) (l := l) (st := st2)
  have q : 0 + (dsT D).length + m.t.length = (prT D m).length := by simp [prT]
  rw [q] at f2
  rw [u_program_from]
  rw [show ((0 : Nat) : Int) = 0 from rfl] at a3
  simp only [b_program_from, fin_rt, fin_nx, fin_exc, x_cons, thenS_nx, thenS_rt, thenS_ct, thenS_exc, x_nil, x_set, x_expr, x_ret, x_if, x_cont, x_asg, x_par, x_par3, x_for, x_loop0, outL_nx, outL_ct, outL_rt, x_raise, x_var, getV_some, x_c, x_e2, x_eT, asB_bl, x_and, x_or, x_not, x_vand, x_vor, x_vnot, x_ifE, x_chain, x_anil, x_acons, x_tup, x_lst, x_lstM, x_call, x_callD, x_CB, x_M0, x_M, x_neg, x_isi, x_iL, x_iT, asL_lst, asT_tup, x_gN, x_gT2, x_lc, x_lcEnd, x_lcEndM, x_lc0, nox_ok, x_yes, k_ii, k_eqS, k_eqI, k_lenL, k_lenT, k_tupL, k_tupT, k_lstT, k_lstS, k_int, at_0, at_1, at_2, at_3, toR_some, k_ixT, k_ixL, k_isNN, k_isNT, isS_S, x_dput, Res.bind_ok, Res.bind_exc, Res.bind_bad, List.getElem?_cons_zero, List.getElem?_cons_succ, List.set_cons_zero, List.set_cons_succ, List.length_cons, List.length_nil, if_true, if_false, Bool.false_eq_true, Bool.not_true, Bool.not_false, cond_true, cond_false, small, Nat.reduceAdd, Nat.reduceLeDiff, decide_true, decide_false, reduceCtorEq, reduceIte, a3, f2, ne, f3, prW]
end K85
end
section
set_option Elab.async false
set_option linter.all false
set_option maxRecDepth 100000
set_option maxHeartbeats 1000000
/-! M10: texts and words. -/
namespace K85
open PySem Vl
def emit (l : List Nat) : List (List Nat) := if l = [] then [] else [l]
def tk : List Nat → List Nat → List (List Nat)
  | cur, [] => emit cur
  | cur, x :: r => if x = 32 then emit cur ++ tk [] r else tk (cur ++ [x]) r
theorem tk_free : ∀ (p cur r : List Nat), 32 ∉ p → tk cur (p ++ r) = tk (cur ++ p) r
  | [], cur, r, _ => by simp
  | x :: p, cur, r, h => by
    rw [List.mem_cons, not_or] at h
    rw [List.cons_append, tk, if_neg (Ne.symm h.1), tk_free p (cur ++ [x]) r h.2, List.append_assoc]
    rfl
theorem tk_sp (cur r : List Nat) : tk cur (32 :: r) = emit cur ++ tk [] r := by rw [tk, if_pos rfl]
theorem tk_join : ∀ (ps : List Str) (p : Str) (cur : List Nat), (∀ q ∈ p :: ps, 32 ∉ q.cps.toList) → tk cur (Str.join " " (p :: ps)).cps.toList = emit (cur ++ p.cps.toList) ++ ps.flatMap fun q => emit q.cps.toList
  | [], p, cur, h => by
    have e := tk_free p.cps.toList cur [] (h p (List.mem_cons_self ..))
    rw [List.append_nil] at e
    show tk cur p.cps.toList = _
    rw [e]
    simp [tk]
  | q :: ps, p, cur, h => by
    have e0 : (Str.join " " (p :: q :: ps)).cps.toList = p.cps.toList ++ 32 :: (Str.join " " (q :: ps)).cps.toList := by
      show (p ++ " " ++ Str.join " " (q :: ps)).cps.toList = _
      rw [Str.cps_append, Str.cps_append, Array.toList_append, Array.toList_append, List.append_assoc]
      rfl
    rw [e0, tk_free _ _ _ (h p (List.mem_cons_self ..)), tk_sp, tk_join ps q [] fun z hz => h z (List.mem_cons_of_mem _ hz)]
    simp
def okw (w : Str) : Bool := decide (w.cps.toList ≠ []) && decide (32 ∉ w.cps.toList) && decide (w.length ≤ 10 ∧ w.cps.all (fun c => decide (c < 1114112)) = true)
def txt (l : List Nat) : Str := ⟨l.toArray⟩
theorem txt_of (w : Str) : txt w.cps.toList = w := by cases w; simp [txt]
theorem emit_ok {w : Str} (h : okw w = true) : emit w.cps.toList = [w.cps.toList] := by
  unfold okw at h
  simp only [Bool.and_eq_true, decide_eq_true_eq] at h
  exact if_neg h.1.1
theorem okw_free {w : Str} (h : okw w = true) : 32 ∉ w.cps.toList := by
  unfold okw at h
  simp only [Bool.and_eq_true, decide_eq_true_eq] at h
  exact h.1.2
theorem okw_len {w : Str} (h : okw w = true) : w.length ≤ 10 := by
  unfold okw at h
  simp only [Bool.and_eq_true, decide_eq_true_eq] at h
  exact h.2.1
theorem okw_all {w : Str} (h : okw w = true) : w.cps.all (fun c => decide (c < 1114112)) = true := by
  unfold okw at h
  rw [Bool.and_eq_true, decide_eq_true_eq] at h
  exact h.2.2
theorem emits : ∀ ws : List Str, (∀ w ∈ ws, okw w = true) → (ws.flatMap fun q => emit q.cps.toList) = ws.map fun w => w.cps.toList
  | [], _ => rfl
  | w :: ws, h => by
    rw [List.flatMap_cons, emit_ok (h w (List.mem_cons_self ..)), emits ws fun z hz => h z (List.mem_cons_of_mem _ hz)]
    rfl
theorem tk_words (ws : List Str) (h : ∀ w ∈ ws, okw w = true) : tk [] (Str.join " " ws).cps.toList = ws.map fun w => w.cps.toList := by
  cases ws with
  | nil => rfl
  | cons w ws =>
    rw [tk_join ws w [] fun q hq => okw_free (h q hq)]
    exact emits (w :: ws) h
theorem emit_filter : ∀ ws : List Str, ((ws.flatMap fun q => emit q.cps.toList).map txt) = ws.filter fun w : Str => !decide (w = "")
  | [] => rfl
  | w :: ws => by
    rw [List.flatMap_cons, List.map_append, emit_filter ws, List.filter_cons]
    by_cases h : w = ""
    · subst h
      rfl
    · rw [decide_eq_false h]
      have : w.cps.toList ≠ [] := fun e => h (by
        cases w with
        | mk a =>
          have : a = #[] := by simpa using e
          subst this
          rfl)
      unfold emit
      rw [if_neg this]
      simp [txt_of]
theorem split_filter (x : Str) : ((Txt.split x " ").filter fun w : Str => !decide (w = "")) = (tk [] x.cps.toList).map txt := by
  have h1 := StrLaws.join_split x " "
  have h2 : ∀ p ∈ Txt.split x " ", 32 ∉ p.cps.toList := StrLaws.split_free x 32
  rw [← emit_filter]
  cases e : Txt.split x " " with
  | nil =>
    rw [e] at h1
    rw [← h1]
    rfl
  | cons p ps =>
    rw [e] at h1 h2
    have := tk_join ps p [] h2
    rw [h1] at this
    rw [this]
    rfl
theorem lc_filter (e : Env') (i : Nat) (t : EvT) (fa : EvE) (st : Store) (c : Str → Bool) : ∀ (l : List Str) (acc : List W), (∀ x ∈ l, t (e.set i (some (.str x))) st = .ok (c x) st ∧ fa (e.set i (some (.str x))) st = .ok (.str x) st) → acc.length + l.length ≤ 900000 →
    lcLoop (gN i) t fa (l.map W.str) acc e st = .ok (acc ++ (l.filter c).map W.str) st
  | [], acc, _, _ => by simp [x_lc0]
  | x :: l, acc, h, hl => by
    obtain ⟨h1, h2⟩ := h x (List.mem_cons_self ..)
    simp only [List.length_cons] at hl
    have ih := fun acc' (hq : acc'.length + l.length ≤ 900000) => lc_filter e i t fa st c l acc' (fun y hy => h y (List.mem_cons_of_mem _ hy)) hq
    have sm : small (W.str x :: acc) = true := small_len (by simp; omega)
    rw [List.map_cons, x_lcS]
    simp only [x_gN, nox_ok, Res.bind_ok, h1, List.filter_cons]
    cases hc : c x with
    | true => simp only [if_true, h2, nox_ok, Res.bind_ok, sm]; rw [ih _ (by simp; omega)]; simp
    | false => simp only [Bool.false_eq_true, if_false]; exact ih acc (by omega)
theorem words_of_ok {x : Str} {st : Store} (hx : x.length ≤ 800000) : f_words_of [.str x] st = .ok (wS ((tk [] x.cps.toList).map txt)) st := by
  have hl := PyProof.Rows.split_le x " "
  have e1 : kSplit (.str x) [.str " "] st = .ok (.lst ((Txt.split x " ").map W.str)) st := by
    show (if ((" " : Str).length == 0) = false ∧ x.length ≤ 1000000 then Res.ok (W.lst ((Txt.split x " ").map W.str)) st else .bad) = _
    rw [if_pos ⟨rfl, by omega⟩]
  have m := lc_filter [some (.str x), none] 1 (eT (e2 (kEq true) (eVar 1) (eC (.str "")))) (eVar 1) st (fun w : Str => !decide (w = "")) (Txt.split x " ") [] (fun y _ => by
    simp only [fin_rt, fin_nx, fin_exc, x_cons, thenS_nx, thenS_rt, thenS_ct, thenS_exc, x_nil, x_set, x_expr, x_ret, x_if, x_cont, x_asg, x_par, x_par3, x_for, x_loop0, outL_nx, outL_ct, outL_rt, x_raise, x_var, getV_some, x_c, x_e2, x_eT, asB_bl, x_and, x_or, x_not, x_vand, x_vor, x_vnot, x_ifE, x_chain, x_anil, x_acons, x_tup, x_lst, x_lstM, x_call, x_callD, x_CB, x_M0, x_M, x_neg, x_isi, x_iL, x_iT, asL_lst, asT_tup, x_gN, x_gT2, x_lc, x_lcEnd, x_lcEndM, x_lc0, nox_ok, x_yes, k_ii, k_eqS, k_eqI, k_lenL, k_lenT, k_tupL, k_tupT, k_lstT, k_lstS, k_int, at_0, at_1, at_2, at_3, toR_some, k_ixT, k_ixL, k_isNN, k_isNT, isS_S, x_dput, Res.bind_ok, Res.bind_exc, Res.bind_bad, List.getElem?_cons_zero, List.getElem?_cons_succ, List.set_cons_zero, List.set_cons_succ, List.length_cons, List.length_nil, if_true, if_false, Bool.false_eq_true, Bool.not_true, Bool.not_false, cond_true, cond_false, small, Nat.reduceAdd, Nat.reduceLeDiff, decide_true, decide_false, reduceCtorEq, reduceIte, and_self]) (by simp; omega)
  rw [List.nil_append, split_filter] at m
  rw [u_words_of]
  simp only [b_words_of, fin_rt, fin_nx, fin_exc, x_cons, thenS_nx, thenS_rt, thenS_ct, thenS_exc, x_nil, x_set, x_expr, x_ret, x_if, x_cont, x_asg, x_par, x_par3, x_for, x_loop0, outL_nx, outL_ct, outL_rt, x_raise, x_var, getV_some, x_c, x_e2, x_eT, asB_bl, x_and, x_or, x_not, x_vand, x_vor, x_vnot, x_ifE, x_chain, x_anil, x_acons, x_tup, x_lst, x_lstM, x_call, x_callD, x_CB, x_M0, x_M, x_neg, x_isi, x_iL, x_iT, asL_lst, asT_tup, x_gN, x_gT2, x_lc, x_lcEnd, x_lcEndM, x_lc0, nox_ok, x_yes, k_ii, k_eqS, k_eqI, k_lenL, k_lenT, k_tupL, k_tupT, k_lstT, k_lstS, k_int, at_0, at_1, at_2, at_3, toR_some, k_ixT, k_ixL, k_isNN, k_isNT, isS_S, x_dput, Res.bind_ok, Res.bind_exc, Res.bind_bad, List.getElem?_cons_zero, List.getElem?_cons_succ, List.set_cons_zero, List.set_cons_succ, List.length_cons, List.length_nil, if_true, if_false, Bool.false_eq_true, Bool.not_true, Bool.not_false, cond_true, cond_false, small, Nat.reduceAdd, Nat.reduceLeDiff, decide_true, decide_false, reduceCtorEq, reduceIte, e1, m]
/-! ### the words are words -/
theorem okw_letter : ∀ k : Nat, k < 10 → okw (letter k) = true := by decide +kernel
theorem okw_num : ∀ k : Nat, k < 10 → okw (num k) = true := by decide +kernel
theorem okw_hd (h : Hd) : okw h.w = true := by cases h <;> decide +kernel
mutual
theorem okw_t : ∀ (p : Pc), p.nm → ∀ w ∈ p.t, okw w = true
  | .sum b l, h, w, hw => by
    have e : (Pc.sum b l).t = (cond b "(" "[" : Str) :: (Pc.sepT (cond b "+" "/") l ++ ([cond b ")" "]"] : List Str)) := rfl
    rw [e] at hw
    rcases List.mem_cons.mp hw with rfl | hw
    · cases b <;> decide +kernel
    · rcases List.mem_append.mp hw with hw | hw
      · rw [sep_rest] at hw
        exact okw_r l (cond b "+" "/") (by cases b <;> decide +kernel) h w (List.mem_of_mem_drop hw)
      · rw [List.mem_singleton.mp hw]
        cases b <;> decide +kernel
  | .wait p, h, w, hw => by
    have e : (Pc.wait p).t = ("wait" : Str) :: p.t := rfl
    rw [e] at hw
    rcases List.mem_cons.mp hw with rfl | hw
    · decide +kernel
    · exact okw_t p h w hw
  | .nw x p, h, w, hw => by
    have e : (Pc.nw x p).t = ("new" : Str) :: letter x :: p.t := rfl
    rw [e] at hw
    rcases List.mem_cons.mp hw with rfl | hw
    · decide +kernel
    · rcases List.mem_cons.mp hw with rfl | hw
      · exact okw_letter x h.1
      · exact okw_t p h.2 w hw
  | .call k ns, h, w, hw => by
    have e : (Pc.call k ns).t = ("call" : Str) :: num k :: ("(" : Str) :: (ns.map letter ++ ([")"] : List Str)) := rfl
    rw [e] at hw
    rcases List.mem_cons.mp hw with rfl | hw
    · decide +kernel
    · rcases List.mem_cons.mp hw with rfl | hw
      · exact okw_num k h.1
      · rcases List.mem_cons.mp hw with rfl | hw
        · decide +kernel
        · rcases List.mem_append.mp hw with hw | hw
          · obtain ⟨n, hn, rfl⟩ := List.mem_map.mp hw
            exact okw_letter n (h.2 n hn)
          · rw [List.mem_singleton.mp hw]
            decide +kernel
  | .pre hd x y p, h, w, hw => by
    have e : (Pc.pre hd x y p).t = hd.w :: letter x :: letter y :: p.t := rfl
    rw [e] at hw
    rcases List.mem_cons.mp hw with rfl | hw
    · exact okw_hd hd
    · rcases List.mem_cons.mp hw with rfl | hw
      · exact okw_letter x h.1
      · rcases List.mem_cons.mp hw with rfl | hw
        · exact okw_letter y h.2.1
        · exact okw_t p h.2.2 w hw
theorem okw_r : ∀ (l : List Pc) (s : Str), okw s = true → Pc.nml l → ∀ w ∈ Pc.restT s l, okw w = true
  | [], s, hs, h, w, hw => by simp [Pc.restT] at hw
  | p :: l, s, hs, h, w, hw => by
    rw [Pc.restT] at hw
    rcases List.mem_cons.mp hw with rfl | hw
    · exact hs
    · rcases List.mem_append.mp hw with hw | hw
      · exact okw_t p h.1 w hw
      · exact okw_r l s hs h.2 w hw
end
theorem okw_pr {D : List Dn} {m : Pc} (h : ∀ d ∈ D, d.ok) (hm : m.nm) : ∀ w ∈ prT D m, okw w = true := by
  intro w hw
  rcases List.mem_append.mp hw with hw | hw
  · obtain ⟨d, hd, hw⟩ := List.mem_flatMap.mp hw
    have ho := h d hd
    have e : d.t = ("def" : Str) :: ("(" : Str) :: (d.1.map letter ++ (([")"] : List Str) ++ (d.2.t ++ ([";"] : List Str)))) := rfl
    rw [e] at hw
    rcases List.mem_cons.mp hw with rfl | hw
    · decide +kernel
    · rcases List.mem_cons.mp hw with rfl | hw
      · decide +kernel
      · rcases List.mem_append.mp hw with hw | hw
        · obtain ⟨n, hn, rfl⟩ := List.mem_map.mp hw
          exact okw_letter n (ho.ps n hn)
        · rcases List.mem_append.mp hw with hw | hw
          · rw [List.mem_singleton.mp hw]
            decide +kernel
          · rcases List.mem_append.mp hw with hw | hw
            · exact okw_t d.2 ho.nm w hw
            · rw [List.mem_singleton.mp hw]
              decide +kernel
  · exact okw_t m hm w hw
theorem map_txt : ∀ ws : List Str, ((ws.map fun w => w.cps.toList).map txt) = ws
  | [] => rfl
  | w :: ws => by rw [List.map_cons, List.map_cons, map_txt ws, txt_of]
/-- a text whose words are these -/
def Reads (x : Str) (ws : List Str) : Prop := tk [] x.cps.toList = ws.map fun w => w.cps.toList
theorem words_of_reads {x : Str} {ws : List Str} {st : Store} (h : Reads x ws) (hx : x.length ≤ 800000) : f_words_of [.str x] st = .ok (wS ws) st := by
  rw [words_of_ok hx, h, map_txt]
theorem strsOf_ok : ∀ ws : List Str, strsOf (ws.map W.str) = some ws
  | [] => rfl
  | w :: ws => by
    rw [List.map_cons]
    unfold strsOf
    rw [strsOf_ok ws]
    rfl
theorem join_ok {ws : List Str} {st : Store} (h : (ws.map (·.length)).sum + ws.length ≤ 1000000) : kJoin (.str " ") [wS ws] st = .ok (.str (Str.join " " ws)) st := by
  have e1 : lstOf st (wS ws) = some (ws.map W.str) := rfl
  unfold kJoin
  simp only [e1, strsOf_ok]
  rw [if_pos (by have : (" " : Str).length = 1 := rfl
                 rw [this]; omega)]
  exact congrArg (fun z => Res.ok (W.str z) st) (StrLaws.glued_eq_join " " ws)
end K85
end
section
set_option Elab.async false
set_option linter.all false
set_option maxRecDepth 100000
set_option maxHeartbeats 1000000
/-! M11: pieces as data. -/
namespace K85
open PySem Vl
structure GD (d : PyData) (a n : Nat) : Prop where
  lay : d.canLay0 = true
  dep : d.depth ≤ a
  wt : d.weight ≤ n
  ish : d.intsShort 13 = true
  sh : d.showable = true
structure GL (ds : List PyData) (a n : Nat) : Prop where
  lay : PyData.canLayAll0 ds = true
  dep : PyData.depthAll ds ≤ a
  wt : PyData.weightAll ds ≤ n
  ish : PyData.intsShortAll 13 ds = true
  sh : PyData.showableAll ds = true
theorem GL.nil {a n : Nat} : GL [] a n := ⟨rfl, Nat.zero_le _, Nat.zero_le _, rfl, rfl⟩
theorem GL.cons {d : PyData} {ds : List PyData} {a n m : Nat} (h : GD d a n) (r : GL ds a m) : GL (d :: ds) a (n + 1 + m) := by
  refine ⟨?_, ?_, ?_, ?_, ?_⟩
  · unfold PyData.canLayAll0; rw [h.lay, r.lay]; rfl
  · unfold PyData.depthAll; exact Nat.max_le.mpr ⟨h.dep, r.dep⟩
  · unfold PyData.weightAll; have := h.wt; have := r.wt; omega
  · unfold PyData.intsShortAll; rw [h.ish, r.ish]; rfl
  · unfold PyData.showableAll; rw [h.sh, r.sh]; rfl
theorem GD.tup {ds : List PyData} {a n : Nat} (h : GL ds a n) : GD (.tuple ds) (a + 1) n := by
  refine ⟨?_, ?_, ?_, ?_, ?_⟩
  · unfold PyData.canLay0; exact h.lay
  · unfold PyData.depth; have := h.dep; omega
  · unfold PyData.weight; exact h.wt
  · unfold PyData.intsShort; exact h.ish
  · unfold PyData.showable; exact h.sh
theorem GD.lst {ds : List PyData} {a n : Nat} (h : GL ds a n) : GD (.list ds) (a + 1) n := by
  refine ⟨?_, ?_, ?_, ?_, ?_⟩
  · unfold PyData.canLay0; exact h.lay
  · unfold PyData.depth; have := h.dep; omega
  · unfold PyData.weight; exact h.wt
  · unfold PyData.intsShort; exact h.ish
  · unfold PyData.showable; exact h.sh
theorem GD.up {d : PyData} {a b n m : Nat} (h : GD d a n) (h1 : a ≤ b) (h2 : n ≤ m) : GD d b m := ⟨h.lay, Nat.le_trans h.dep h1, Nat.le_trans h.wt h2, h.ish, h.sh⟩
theorem GL.up {d : List PyData} {a b n m : Nat} (h : GL d a n) (h1 : a ≤ b) (h2 : n ≤ m) : GL d b m := ⟨h.lay, Nat.le_trans h.dep h1, Nat.le_trans h.wt h2, h.ish, h.sh⟩
theorem GD.str {x : Str} {a n : Nat} (h : ok1 x = true) (hn : x.cps.size ≤ n) : GD (.str x) a n := by
  refine ⟨h, ?_, ?_, rfl, rfl⟩
  · unfold PyData.depth; omega
  · unfold PyData.weight; exact hn
theorem int_short : ∀ k : Nat, k < 10 → (PyData.intsShort 13 (.int k) && PyData.showable (.int k) && decide (PyData.weight (.int k) ≤ 4)) = true := by decide +kernel
theorem GD.nat {k a : Nat} (h : k < 10) : GD (.int k) a 4 := by
  have := int_short k h
  simp only [Bool.and_eq_true, decide_eq_true_eq] at this
  refine ⟨rfl, ?_, this.2, this.1.1, this.1.2⟩
  unfold PyData.depth; omega
theorem dat_tup {l : List W} {ds : List PyData} (h : dats l = some ds) : dat (.tup l) = some (.tuple ds) := by
  unfold dat
  rw [h]
  rfl
theorem dats_cons {w : W} {ws : List W} {d : PyData} {ds : List PyData} (h : dat w = some d) (hs : dats ws = some ds) : dats (w :: ws) = some (d :: ds) := by
  unfold dats
  rw [h, hs]
theorem dats_nats {a : Nat} : ∀ ns : List Nat, (∀ n ∈ ns, n < 10) → ∃ ds, dats (ns.map nat) = some ds ∧ GL ds a (5 * ns.length)
  | [], _ => ⟨[], rfl, .nil⟩
  | n :: ns, h => by
    obtain ⟨ds, e, g⟩ := dats_nats (a := a) ns fun z hz => h z (List.mem_cons_of_mem _ hz)
    exact ⟨.int n :: ds, dats_cons rfl e, (GL.cons (GD.nat (h n (List.mem_cons_self ..))) g).up (Nat.le_refl _) (by simp; omega)⟩
mutual
theorem piece_dat : ∀ p : Pc, p.nm → ∃ d ds, dat p.w = some (.tuple (.str d :: ds)) ∧ ds ≠ [] ∧ GD (.tuple (.str d :: ds)) (2 * p.d) (40 * p.t.length)
  | .sum b l, h => by
    obtain ⟨ds, e, g⟩ := pieces_dat l (cond b "+" "/") h
    have g2 := GL.cons (GD.tup g) (GL.nil (a := 2 * Pc.dl l + 1) (n := 0))
    have g1 := GL.cons (GD.str (a := 2 * Pc.dl l + 1) (n := 10) (x := cond b "one" "beside") (by cases b <;> decide +kernel) (by cases b <;> decide +kernel)) g2
    refine ⟨_, _, dat_tup (dats_cons rfl (dats_cons (dat_tup e) rfl)), by simp, (GD.tup g1).up (by simp [Pc.d]; omega) ?_⟩
    have := sep_len (cond b "+" "/") l
    simp [Pc.t]
    omega
  | .wait p, h => by
    obtain ⟨d, ds, e, _, g⟩ := piece_dat p h
    have g1 := GL.cons (GD.str (a := 2 * p.d) (n := 10) (x := "wait") (by decide +kernel) (by decide +kernel)) (GL.cons g (GL.nil (n := 0)))
    exact ⟨_, _, dat_tup (dats_cons rfl (dats_cons e rfl)), by simp, (GD.tup g1).up (by simp [Pc.d]; omega) (by simp [Pc.t]; omega)⟩
  | .nw x p, h => by
    obtain ⟨d, ds, e, _, g⟩ := piece_dat p h.2
    have g1 := GL.cons (GD.str (a := 2 * p.d) (n := 10) (x := "new") (by decide +kernel) (by decide +kernel)) (GL.cons (GD.nat h.1) (GL.cons g (GL.nil (n := 0))))
    exact ⟨_, _, dat_tup (dats_cons rfl (dats_cons rfl (dats_cons e rfl))), by simp, (GD.tup g1).up (by simp [Pc.d]; omega) (by simp [Pc.t]; omega)⟩
  | .call k ns, h => by
    obtain ⟨ds, e, g⟩ := dats_nats (a := 0) ns h.2
    have g1 := GL.cons (GD.str (a := 1) (n := 10) (x := "call") (by decide +kernel) (by decide +kernel)) (GL.cons (GD.nat h.1) (GL.cons (GD.tup g) (GL.nil (n := 0))))
    exact ⟨_, _, dat_tup (dats_cons rfl (dats_cons rfl (dats_cons (dat_tup e) rfl))), by simp, (GD.tup g1).up (by simp [Pc.d]) (by simp [Pc.t]; omega)⟩
  | .pre hd x y p, h => by
    obtain ⟨d, ds, e, _, g⟩ := piece_dat p h.2.2
    have g1 := GL.cons (GD.str (a := 2 * p.d) (n := 10) (x := hd.w) (by cases hd <;> decide +kernel) (by cases hd <;> decide +kernel)) (GL.cons (GD.nat h.1) (GL.cons (GD.nat h.2.1) (GL.cons g (GL.nil (n := 0)))))
    exact ⟨_, _, dat_tup (dats_cons rfl (dats_cons rfl (dats_cons rfl (dats_cons e rfl)))), by simp, (GD.tup g1).up (by simp [Pc.d]; omega) (by simp [Pc.t]; omega)⟩
theorem pieces_dat : ∀ (l : List Pc) (s : Str), Pc.nml l → ∃ ds, dats (Pc.wl l) = some ds ∧ GL ds (2 * Pc.dl l) (40 * (Pc.restT s l).length)
  | [], s, _ => ⟨[], rfl, .nil⟩
  | p :: l, s, h => by
    obtain ⟨d, dd, e, _, g⟩ := piece_dat p h.1
    obtain ⟨ds, e2, g2⟩ := pieces_dat l s h.2
    refine ⟨_, dats_cons e e2, (GL.cons (g.up (b := 2 * Pc.dl (p :: l)) ?_ (Nat.le_refl _)) (g2.up (b := 2 * Pc.dl (p :: l)) ?_ (Nat.le_refl _))).up (Nat.le_refl _) ?_⟩
    · simp [Pc.dl]; omega
    · simp [Pc.dl]; omega
    · simp [Pc.restT]; omega
end
theorem GD.okD {d : PyData} (h : GD d 64 1000000) : okD d = true := by
  unfold Vl.okD PyData.layable0
  rw [h.lay, h.ish, h.sh, decide_eq_true h.dep, decide_eq_true (Nat.le_trans h.wt (by decide))]
  rfl
theorem GD.shaped {d : PyData} {n : Nat} (h : GD d 64 n) : SeqAt.shaped d = true := by
  unfold SeqAt.shaped
  rw [h.lay, decide_eq_true h.dep]
  rfl
/-- no piece is the hole -/
theorem not_hole {p : Pc} {st : Store} (h : p.nm) (hd : p.d ≤ 32) : kEqD false p.w (.tup [.str "hole"]) st = .ok (.bl false) st := by
  obtain ⟨d, ds, e, h0, g⟩ := piece_dat p h
  have e1 : datS st p.w = some (.tuple (.str d :: ds)) := by
    have : datS st p.w = dat p.w := by cases p <;> rfl
    rw [this, e]
  have e2 : datS st (.tup [.str "hole"]) = some (.tuple [.str "hole"]) := rfl
  have s2 : SeqAt.shaped (.tuple [.str "hole"]) = true := (GD.tup (GL.cons (GD.str (a := 63) (n := 10) (x := "hole") (by decide +kernel) (by decide +kernel)) (GL.nil (n := 0)))).shaped
  have : PyData.eqv (.tuple (.str d :: ds)) (.tuple [.str "hole"]) = false := by
    cases ds with
    | nil => exact absurd rfl h0
    | cons x ds => simp [PyData.eqv, PyData.eqvAll]
  unfold kEqD
  rw [e1, e2]
  simp only [(g.up (b := 64) (by omega) (Nat.le_refl _)).shaped, s2, Bool.and_self, if_true, this]
  rfl
end K85
end
section
set_option Elab.async false
set_option linter.all false
set_option maxRecDepth 100000
set_option maxHeartbeats 1000000
/-! M12: pieces of the right shape. -/
namespace K85
open PySem Vl
theorem ty_tup {ws : List W} : tyName (.tup ws) = some "tuple" := rfl
theorem ty_str {x : Str} : tyName (.str x) = some "str" := rfl
theorem ty_int {i : Int} : tyName (.int i) = some "int" := rfl
theorem is_tt : isT "tuple" "tuple" = true := by decide
theorem is_ss : isT "str" "str" = true := by decide
theorem is_ii : isT "int" "int" = true := by decide
theorem is_ib : isT "int" "bool" = false := by decide
theorem is_from_ok {k b : Int} {st : Store} (h0 : 0 ≤ k) (h1 : k ≤ b) : f_is_from [.int k, .int 0, .int b] st = .ok (.bl true) st := by
  rw [u_is_from]
  simp only [b_is_from, fin_rt, fin_nx, fin_exc, x_cons, thenS_nx, thenS_rt, thenS_ct, thenS_exc, x_nil, x_set, x_expr, x_ret, x_if, x_cont, x_asg, x_par, x_par3, x_for, x_loop0, outL_nx, outL_ct, outL_rt, x_raise, x_var, getV_some, x_c, x_e2, x_eT, asB_bl, x_and, x_or, x_not, x_vand, x_vor, x_vnot, x_ifE, x_chain, x_anil, x_acons, x_tup, x_lst, x_lstM, x_call, x_callD, x_CB, x_M0, x_M, x_neg, x_isi, x_iL, x_iT, asL_lst, asT_tup, x_gN, x_gT2, x_lc, x_lcEnd, x_lcEndM, x_lc0, nox_ok, x_yes, k_ii, k_eqS, k_eqI, k_lenL, k_lenT, k_tupL, k_tupT, k_lstT, k_lstS, k_int, at_0, at_1, at_2, at_3, toR_some, k_ixT, k_ixL, k_isNN, k_isNT, isS_S, x_dput, Res.bind_ok, Res.bind_exc, Res.bind_bad, List.getElem?_cons_zero, List.getElem?_cons_succ, List.set_cons_zero, List.set_cons_succ, List.length_cons, List.length_nil, if_true, if_false, Bool.false_eq_true, Bool.not_true, Bool.not_false, cond_true, cond_false, small, Nat.reduceAdd, Nat.reduceLeDiff, decide_true, decide_false, reduceCtorEq, reduceIte, ty_int, is_ii, is_ib, decide_eq_true h0, decide_eq_true h1]
theorem is_name_ok {k : Nat} {st : Store} (h : k < 10) : f_is_name [.int k] st = .ok (.bl true) st := by
  have := is_from_ok (k := k) (b := 10 - 1) (st := st) (by omega) (by omega)
  rw [u_is_name]
  simp only [b_is_name, fin_rt, fin_nx, fin_exc, x_cons, thenS_nx, thenS_rt, thenS_ct, thenS_exc, x_nil, x_set, x_expr, x_ret, x_if, x_cont, x_asg, x_par, x_par3, x_for, x_loop0, outL_nx, outL_ct, outL_rt, x_raise, x_var, getV_some, x_c, x_e2, x_eT, asB_bl, x_and, x_or, x_not, x_vand, x_vor, x_vnot, x_ifE, x_chain, x_anil, x_acons, x_tup, x_lst, x_lstM, x_call, x_callD, x_CB, x_M0, x_M, x_neg, x_isi, x_iL, x_iT, asL_lst, asT_tup, x_gN, x_gT2, x_lc, x_lcEnd, x_lcEndM, x_lc0, nox_ok, x_yes, k_ii, k_eqS, k_eqI, k_lenL, k_lenT, k_tupL, k_tupT, k_lstT, k_lstS, k_int, at_0, at_1, at_2, at_3, toR_some, k_ixT, k_ixL, k_isNN, k_isNT, isS_S, x_dput, Res.bind_ok, Res.bind_exc, Res.bind_bad, List.getElem?_cons_zero, List.getElem?_cons_succ, List.set_cons_zero, List.set_cons_succ, List.length_cons, List.length_nil, if_true, if_false, Bool.false_eq_true, Bool.not_true, Bool.not_false, cond_true, cond_false, small, Nat.reduceAdd, Nat.reduceLeDiff, decide_true, decide_false, reduceCtorEq, reduceIte, this]
theorem names_loop {st : Store} {f : EvS} {a b : W} (hf : ∀ n : Nat, n < 10 → f [some a, some b, some (.int n)] st = .ok (.nx [some a, some b, some (.int n)]) st) : ∀ (ns : List Nat) (x : Option W), (∀ n ∈ ns, n < 10) → ∃ x', sLoop (gN 2) f (ns.map nat) [some a, some b, x] st = .ok (.nx [some a, some b, x']) st
  | [], x, _ => ⟨x, x_loop0⟩
  | n :: ns, x, h => by
    obtain ⟨x', e⟩ := names_loop hf ns (some (.int n)) fun z hz => h z (List.mem_cons_of_mem _ hz)
    refine ⟨x', ?_⟩
    rw [List.map_cons, x_loop]
    simp only [nat, fin_rt, fin_nx, fin_exc, x_cons, thenS_nx, thenS_rt, thenS_ct, thenS_exc, x_nil, x_set, x_expr, x_ret, x_if, x_cont, x_asg, x_par, x_par3, x_for, x_loop0, outL_nx, outL_ct, outL_rt, x_raise, x_var, getV_some, x_c, x_e2, x_eT, asB_bl, x_and, x_or, x_not, x_vand, x_vor, x_vnot, x_ifE, x_chain, x_anil, x_acons, x_tup, x_lst, x_lstM, x_call, x_callD, x_CB, x_M0, x_M, x_neg, x_isi, x_iL, x_iT, asL_lst, asT_tup, x_gN, x_gT2, x_lc, x_lcEnd, x_lcEndM, x_lc0, nox_ok, x_yes, k_ii, k_eqS, k_eqI, k_lenL, k_lenT, k_tupL, k_tupT, k_lstT, k_lstS, k_int, at_0, at_1, at_2, at_3, toR_some, k_ixT, k_ixL, k_isNN, k_isNT, isS_S, x_dput, Res.bind_ok, Res.bind_exc, Res.bind_bad, List.getElem?_cons_zero, List.getElem?_cons_succ, List.set_cons_zero, List.set_cons_succ, List.length_cons, List.length_nil, if_true, if_false, Bool.false_eq_true, Bool.not_true, Bool.not_false, cond_true, cond_false, small, Nat.reduceAdd, Nat.reduceLeDiff, decide_true, decide_false, reduceCtorEq, reduceIte, hf n (h n (List.mem_cons_self ..))]
    exact e
theorem are_names_ok {ns : List Nat} {st : Store} (h : ∀ n ∈ ns, n < 10) (hl : ns.length ≤ 4) : f_are_names [.tup (ns.map nat), .int 4] st = .ok (.bl true) st := by
  have d : decide ((4 : Int) < ((ns.map nat).length : Nat)) = false := decide_eq_false (by simp; omega)
  obtain ⟨x', e⟩ := names_loop (st := st) (a := .tup (ns.map nat)) (b := .int 4) (f := sIf (bNot (eT (eCall 1 f_is_name (aCons (eVar 2) aNil)))) (sRet (eC (.bl false))) sNil) (fun n hn => by
    simp only [fin_rt, fin_nx, fin_exc, x_cons, thenS_nx, thenS_rt, thenS_ct, thenS_exc, x_nil, x_set, x_expr, x_ret, x_if, x_cont, x_asg, x_par, x_par3, x_for, x_loop0, outL_nx, outL_ct, outL_rt, x_raise, x_var, getV_some, x_c, x_e2, x_eT, asB_bl, x_and, x_or, x_not, x_vand, x_vor, x_vnot, x_ifE, x_chain, x_anil, x_acons, x_tup, x_lst, x_lstM, x_call, x_callD, x_CB, x_M0, x_M, x_neg, x_isi, x_iL, x_iT, asL_lst, asT_tup, x_gN, x_gT2, x_lc, x_lcEnd, x_lcEndM, x_lc0, nox_ok, x_yes, k_ii, k_eqS, k_eqI, k_lenL, k_lenT, k_tupL, k_tupT, k_lstT, k_lstS, k_int, at_0, at_1, at_2, at_3, toR_some, k_ixT, k_ixL, k_isNN, k_isNT, isS_S, x_dput, Res.bind_ok, Res.bind_exc, Res.bind_bad, List.getElem?_cons_zero, List.getElem?_cons_succ, List.set_cons_zero, List.set_cons_succ, List.length_cons, List.length_nil, if_true, if_false, Bool.false_eq_true, Bool.not_true, Bool.not_false, cond_true, cond_false, small, Nat.reduceAdd, Nat.reduceLeDiff, decide_true, decide_false, reduceCtorEq, reduceIte, is_name_ok hn]) ns none h
  rw [u_are_names]
  simp only [b_are_names, fin_rt, fin_nx, fin_exc, x_cons, thenS_nx, thenS_rt, thenS_ct, thenS_exc, x_nil, x_set, x_expr, x_ret, x_if, x_cont, x_asg, x_par, x_par3, x_for, x_loop0, outL_nx, outL_ct, outL_rt, x_raise, x_var, getV_some, x_c, x_e2, x_eT, asB_bl, x_and, x_or, x_not, x_vand, x_vor, x_vnot, x_ifE, x_chain, x_anil, x_acons, x_tup, x_lst, x_lstM, x_call, x_callD, x_CB, x_M0, x_M, x_neg, x_isi, x_iL, x_iT, asL_lst, asT_tup, x_gN, x_gT2, x_lc, x_lcEnd, x_lcEndM, x_lc0, nox_ok, x_yes, k_ii, k_eqS, k_eqI, k_lenL, k_lenT, k_tupL, k_tupT, k_lstT, k_lstS, k_int, at_0, at_1, at_2, at_3, toR_some, k_ixT, k_ixL, k_isNN, k_isNT, isS_S, x_dput, Res.bind_ok, Res.bind_exc, Res.bind_bad, List.getElem?_cons_zero, List.getElem?_cons_succ, List.set_cons_zero, List.set_cons_succ, List.length_cons, List.length_nil, if_true, if_false, Bool.false_eq_true, Bool.not_true, Bool.not_false, cond_true, cond_false, small, Nat.reduceAdd, Nat.reduceLeDiff, decide_true, decide_false, reduceCtorEq, reduceIte, ty_tup, is_tt, d, e]
def Pc.tag : Pc → Str
  | .sum b _ => cond b "one" "beside"
  | .wait _ => "wait"
  | .nw _ _ => "new"
  | .call _ _ => "call"
  | .pre h _ _ _ => h.w
theorem tag_at (p : Pc) {st : Store} : kIxT p.w (.int 0) st = .ok (.str p.tag) st := by cases p <;> rfl
/-- shapes as the program asks them -/
def Pc.shp (ks : List Nat) : Pc → Prop
  | .sum b l => l.length ≤ cond b 20 4
  | .call k ns => ks[k]? = some ns.length ∧ ns.length ≤ 4
  | _ => True
theorem has_shape_ok {p : Pc} {ks : List Nat} {st : Store} (h : p.nm) (hs : p.shp ks) : f_has_shape [p.w, .tup (ks.map nat), .bl false] st = .ok (.bl true) st := by
  rw [u_has_shape]
  cases p with
  | sum b l =>
    have i1 : kInT false (.str (cond b "one" "beside")) (.tup [.str "sends", .str "takes"]) st = .ok (.bl false) st := in_ (l := ["sends", "takes"]) (by cases b <;> decide +kernel)
    have i2 : kInT false (.str (cond b "one" "beside")) (.tup [.str "send", .str "take", .str "alike", .str "unlike"]) st = .ok (.bl false) st := in_ (l := ["send", "take", "alike", "unlike"]) (by cases b <;> decide +kernel)
    have i3 : kInT false (.str (cond b "one" "beside")) (.tup [.str "one", .str "beside"]) st = .ok (.bl true) st := in_ (l := ["one", "beside"]) (by cases b <;> decide +kernel)
    have d1 : decide ((cond b "one" "beside" : Str) = "wait") = false := by cases b <;> decide +kernel
    have d2 : decide ((cond b "one" "beside" : Str) = "one") = b := by cases b <;> decide +kernel
    have hs : l.length ≤ cond b 20 4 := hs
    have d0 : decide ((((0 : Nat) + 1 + 1 : Nat) : Int) = 0) = false := by decide
    have d3 : decide ((((0 : Nat) + 1 + 1 : Nat) : Int) = 2) = true := by decide
    have d4 : decide (((Pc.wl l).length : Int) ≤ cond b 20 4) = true := decide_eq_true (by rw [wl_len]; cases b <;> simp only [cond_true, cond_false] at hs ⊢ <;> omega)
    cases b <;> simp only [cond_true, cond_false] at i1 i2 i3 d1 d2 d4 <;> simp only [b_has_shape, Pc.w, fin_rt, fin_nx, fin_exc, x_cons, thenS_nx, thenS_rt, thenS_ct, thenS_exc, x_nil, x_set, x_expr, x_ret, x_if, x_cont, x_asg, x_par, x_par3, x_for, x_loop0, outL_nx, outL_ct, outL_rt, x_raise, x_var, getV_some, x_c, x_e2, x_eT, asB_bl, x_and, x_or, x_not, x_vand, x_vor, x_vnot, x_ifE, x_chain, x_anil, x_acons, x_tup, x_lst, x_lstM, x_call, x_callD, x_CB, x_M0, x_M, x_neg, x_isi, x_iL, x_iT, asL_lst, asT_tup, x_gN, x_gT2, x_lc, x_lcEnd, x_lcEndM, x_lc0, nox_ok, x_yes, k_ii, k_eqS, k_eqI, k_lenL, k_lenT, k_tupL, k_tupT, k_lstT, k_lstS, k_int, at_0, at_1, at_2, at_3, toR_some, k_ixT, k_ixL, k_isNN, k_isNT, isS_S, x_dput, Res.bind_ok, Res.bind_exc, Res.bind_bad, List.getElem?_cons_zero, List.getElem?_cons_succ, List.set_cons_zero, List.set_cons_succ, List.length_cons, List.length_nil, if_true, if_false, Bool.false_eq_true, Bool.not_true, Bool.not_false, cond_true, cond_false, small, Nat.reduceAdd, Nat.reduceLeDiff, decide_true, decide_false, reduceCtorEq, reduceIte, ty_tup, is_tt, ty_str, is_ss, i1, i2, i3, d0, d1, d2, d3, d4]
  | wait p =>
    have i1 : kInT false (.str "wait") (.tup [.str "sends", .str "takes"]) st = .ok (.bl false) st := in_ (l := ["sends", "takes"]) (by decide +kernel)
    have i2 : kInT false (.str "wait") (.tup [.str "send", .str "take", .str "alike", .str "unlike"]) st = .ok (.bl false) st := in_ (l := ["send", "take", "alike", "unlike"]) (by decide +kernel)
    have d1 : decide (("wait" : Str) = "wait") = true := by decide +kernel
    have d0 : decide ((((0 : Nat) + 1 + 1 : Nat) : Int) = 0) = false := by decide
    have d3 : decide ((((0 : Nat) + 1 + 1 : Nat) : Int) = 2) = true := by decide
    simp only [b_has_shape, Pc.w, fin_rt, fin_nx, fin_exc, x_cons, thenS_nx, thenS_rt, thenS_ct, thenS_exc, x_nil, x_set, x_expr, x_ret, x_if, x_cont, x_asg, x_par, x_par3, x_for, x_loop0, outL_nx, outL_ct, outL_rt, x_raise, x_var, getV_some, x_c, x_e2, x_eT, asB_bl, x_and, x_or, x_not, x_vand, x_vor, x_vnot, x_ifE, x_chain, x_anil, x_acons, x_tup, x_lst, x_lstM, x_call, x_callD, x_CB, x_M0, x_M, x_neg, x_isi, x_iL, x_iT, asL_lst, asT_tup, x_gN, x_gT2, x_lc, x_lcEnd, x_lcEndM, x_lc0, nox_ok, x_yes, k_ii, k_eqS, k_eqI, k_lenL, k_lenT, k_tupL, k_tupT, k_lstT, k_lstS, k_int, at_0, at_1, at_2, at_3, toR_some, k_ixT, k_ixL, k_isNN, k_isNT, isS_S, x_dput, Res.bind_ok, Res.bind_exc, Res.bind_bad, List.getElem?_cons_zero, List.getElem?_cons_succ, List.set_cons_zero, List.set_cons_succ, List.length_cons, List.length_nil, if_true, if_false, Bool.false_eq_true, Bool.not_true, Bool.not_false, cond_true, cond_false, small, Nat.reduceAdd, Nat.reduceLeDiff, decide_true, decide_false, reduceCtorEq, reduceIte, ty_tup, is_tt, ty_str, is_ss, i1, i2, d0, d1, d3]
  | nw x p =>
    have i1 : kInT false (.str "new") (.tup [.str "sends", .str "takes"]) st = .ok (.bl false) st := in_ (l := ["sends", "takes"]) (by decide +kernel)
    have i2 : kInT false (.str "new") (.tup [.str "send", .str "take", .str "alike", .str "unlike"]) st = .ok (.bl false) st := in_ (l := ["send", "take", "alike", "unlike"]) (by decide +kernel)
    have i3 : kInT false (.str "new") (.tup [.str "one", .str "beside"]) st = .ok (.bl false) st := in_ (l := ["one", "beside"]) (by decide +kernel)
    have d1 : decide (("new" : Str) = "wait") = false := by decide +kernel
    have d2 : decide (("new" : Str) = "new") = true := by decide +kernel
    have d0 : decide ((((0 : Nat) + 1 + 1 + 1 : Nat) : Int) = 0) = false := by decide
    have d3 : decide ((((0 : Nat) + 1 + 1 + 1 : Nat) : Int) = 3) = true := by decide
    simp only [b_has_shape, Pc.w, fin_rt, fin_nx, fin_exc, x_cons, thenS_nx, thenS_rt, thenS_ct, thenS_exc, x_nil, x_set, x_expr, x_ret, x_if, x_cont, x_asg, x_par, x_par3, x_for, x_loop0, outL_nx, outL_ct, outL_rt, x_raise, x_var, getV_some, x_c, x_e2, x_eT, asB_bl, x_and, x_or, x_not, x_vand, x_vor, x_vnot, x_ifE, x_chain, x_anil, x_acons, x_tup, x_lst, x_lstM, x_call, x_callD, x_CB, x_M0, x_M, x_neg, x_isi, x_iL, x_iT, asL_lst, asT_tup, x_gN, x_gT2, x_lc, x_lcEnd, x_lcEndM, x_lc0, nox_ok, x_yes, k_ii, k_eqS, k_eqI, k_lenL, k_lenT, k_tupL, k_tupT, k_lstT, k_lstS, k_int, at_0, at_1, at_2, at_3, toR_some, k_ixT, k_ixL, k_isNN, k_isNT, isS_S, x_dput, Res.bind_ok, Res.bind_exc, Res.bind_bad, List.getElem?_cons_zero, List.getElem?_cons_succ, List.set_cons_zero, List.set_cons_succ, List.length_cons, List.length_nil, if_true, if_false, Bool.false_eq_true, Bool.not_true, Bool.not_false, cond_true, cond_false, small, Nat.reduceAdd, Nat.reduceLeDiff, decide_true, decide_false, reduceCtorEq, reduceIte, ty_tup, is_tt, ty_str, is_ss, i1, i2, i3, d0, d1, d2, d3, is_name_ok h.1]
  | call k ns =>
    have i1 : kInT false (.str "call") (.tup [.str "sends", .str "takes"]) st = .ok (.bl false) st := in_ (l := ["sends", "takes"]) (by decide +kernel)
    have i2 : kInT false (.str "call") (.tup [.str "send", .str "take", .str "alike", .str "unlike"]) st = .ok (.bl false) st := in_ (l := ["send", "take", "alike", "unlike"]) (by decide +kernel)
    have i3 : kInT false (.str "call") (.tup [.str "one", .str "beside"]) st = .ok (.bl false) st := in_ (l := ["one", "beside"]) (by decide +kernel)
    have d1 : decide (("call" : Str) = "wait") = false := by decide +kernel
    have d2 : decide (("call" : Str) = "new") = false := by decide +kernel
    have d4 : decide (("call" : Str) = "call") = true := by decide +kernel
    have d0 : decide ((((0 : Nat) + 1 + 1 + 1 : Nat) : Int) = 0) = false := by decide
    have d3 : decide ((((0 : Nat) + 1 + 1 + 1 : Nat) : Int) = 3) = true := by decide
    obtain ⟨h1, h2⟩ : ks[k]? = some ns.length ∧ ns.length ≤ 4 := hs
    have hk : k < ks.length := (List.getElem?_eq_some_iff.mp h1).1
    have f1 := is_from_ok (k := k) (b := ((ks.map nat).length : Nat) - 1) (st := st) (by omega) (by simp; omega)
    have e1 : L2.atI (ks.map nat) (k : Int) = some (nat ns.length) := by rw [at_nat, List.getElem?_map, h1]; rfl
    have d5 : decide ((((ns.map nat).length : Nat) : Int) = (ns.length : Nat)) = true := decide_eq_true (by simp)
    simp only [b_has_shape, Pc.w, fin_rt, fin_nx, fin_exc, x_cons, thenS_nx, thenS_rt, thenS_ct, thenS_exc, x_nil, x_set, x_expr, x_ret, x_if, x_cont, x_asg, x_par, x_par3, x_for, x_loop0, outL_nx, outL_ct, outL_rt, x_raise, x_var, getV_some, x_c, x_e2, x_eT, asB_bl, x_and, x_or, x_not, x_vand, x_vor, x_vnot, x_ifE, x_chain, x_anil, x_acons, x_tup, x_lst, x_lstM, x_call, x_callD, x_CB, x_M0, x_M, x_neg, x_isi, x_iL, x_iT, asL_lst, asT_tup, x_gN, x_gT2, x_lc, x_lcEnd, x_lcEndM, x_lc0, nox_ok, x_yes, k_ii, k_eqS, k_eqI, k_lenL, k_lenT, k_tupL, k_tupT, k_lstT, k_lstS, k_int, at_0, at_1, at_2, at_3, toR_some, k_ixT, k_ixL, k_isNN, k_isNT, isS_S, x_dput, Res.bind_ok, Res.bind_exc, Res.bind_bad, List.getElem?_cons_zero, List.getElem?_cons_succ, List.set_cons_zero, List.set_cons_succ, List.length_cons, List.length_nil, if_true, if_false, Bool.false_eq_true, Bool.not_true, Bool.not_false, cond_true, cond_false, small, Nat.reduceAdd, Nat.reduceLeDiff, decide_true, decide_false, reduceCtorEq, reduceIte, ty_tup, is_tt, ty_str, is_ss, i1, i2, i3, d0, d1, d2, d3, d4, f1, e1, are_names_ok h.2 h2, nat, d5]
  | pre hd x y p =>
    have i1 : kInT false (.str hd.w) (.tup [.str "sends", .str "takes"]) st = .ok (.bl false) st := in_ (l := ["sends", "takes"]) (by cases hd <;> decide +kernel)
    have i2 : kInT false (.str hd.w) (.tup [.str "send", .str "take", .str "alike", .str "unlike"]) st = .ok (.bl true) st := in_ (l := ["send", "take", "alike", "unlike"]) (by cases hd <;> decide +kernel)
    have d0 : decide ((((0 : Nat) + 1 + 1 + 1 + 1 : Nat) : Int) = 0) = false := by decide
    have d3 : decide ((((0 : Nat) + 1 + 1 + 1 + 1 : Nat) : Int) = 4) = true := by decide
    simp only [b_has_shape, Pc.w, fin_rt, fin_nx, fin_exc, x_cons, thenS_nx, thenS_rt, thenS_ct, thenS_exc, x_nil, x_set, x_expr, x_ret, x_if, x_cont, x_asg, x_par, x_par3, x_for, x_loop0, outL_nx, outL_ct, outL_rt, x_raise, x_var, getV_some, x_c, x_e2, x_eT, asB_bl, x_and, x_or, x_not, x_vand, x_vor, x_vnot, x_ifE, x_chain, x_anil, x_acons, x_tup, x_lst, x_lstM, x_call, x_callD, x_CB, x_M0, x_M, x_neg, x_isi, x_iL, x_iT, asL_lst, asT_tup, x_gN, x_gT2, x_lc, x_lcEnd, x_lcEndM, x_lc0, nox_ok, x_yes, k_ii, k_eqS, k_eqI, k_lenL, k_lenT, k_tupL, k_tupT, k_lstT, k_lstS, k_int, at_0, at_1, at_2, at_3, toR_some, k_ixT, k_ixL, k_isNN, k_isNT, isS_S, x_dput, Res.bind_ok, Res.bind_exc, Res.bind_bad, List.getElem?_cons_zero, List.getElem?_cons_succ, List.set_cons_zero, List.set_cons_succ, List.length_cons, List.length_nil, if_true, if_false, Bool.false_eq_true, Bool.not_true, Bool.not_false, cond_true, cond_false, small, Nat.reduceAdd, Nat.reduceLeDiff, decide_true, decide_false, reduceCtorEq, reduceIte, ty_tup, is_tt, ty_str, is_ss, i1, i2, d0, d3, is_name_ok h.1, is_name_ok h.2.1]
/-! ### rules -/
structure Rl where
  ks : List Nat
  br : Bool
  bd : Bool
  bh : Bool
def Rl.D (r : Rl) : List (Str × W) := [("widths", .tup (r.ks.map nat)), ("branch", .bl r.br), ("body", .bl r.bd), ("behind", .bl r.bh), ("hole", .bl false), ("rows", .bl false)]
def Pc.isCall : Pc → Bool
  | .call _ _ => true
  | _ => false
def Pc.isBs : Pc → Bool
  | .sum b _ => !b
  | _ => false
theorem is_branch_ok {p : Pc} {st : Store} : f_is_branch [p.w] st = .ok (.bl p.isB) st := by
  rw [u_is_branch]
  cases p with
  | sum b l =>
    have i1 : kInT false (.str (cond b "one" "beside")) (.tup (List.map W.str ["send", "take", "wait", "sends", "takes"])) st = .ok (.bl false) st := in_ (by cases b <;> decide +kernel)
    have i2 : kInT false (.str (cond b "one" "beside")) (.tup (List.map W.str ["alike", "unlike"])) st = .ok (.bl false) st := in_ (by cases b <;> decide +kernel)
    simp only [b_is_branch, Pc.w, fin_rt, fin_nx, fin_exc, x_cons, thenS_nx, thenS_rt, thenS_ct, thenS_exc, x_nil, x_set, x_expr, x_ret, x_if, x_cont, x_asg, x_par, x_par3, x_for, x_loop0, outL_nx, outL_ct, outL_rt, x_raise, x_var, getV_some, x_c, x_e2, x_eT, asB_bl, x_and, x_or, x_not, x_vand, x_vor, x_vnot, x_ifE, x_chain, x_anil, x_acons, x_tup, x_lst, x_lstM, x_call, x_callD, x_CB, x_M0, x_M, x_neg, x_isi, x_iL, x_iT, asL_lst, asT_tup, x_gN, x_gT2, x_lc, x_lcEnd, x_lcEndM, x_lc0, nox_ok, x_yes, k_ii, k_eqS, k_eqI, k_lenL, k_lenT, k_tupL, k_tupT, k_lstT, k_lstS, k_int, at_0, at_1, at_2, at_3, toR_some, k_ixT, k_ixL, k_isNN, k_isNT, isS_S, x_dput, Res.bind_ok, Res.bind_exc, Res.bind_bad, List.getElem?_cons_zero, List.getElem?_cons_succ, List.set_cons_zero, List.set_cons_succ, List.length_cons, List.length_nil, if_true, if_false, Bool.false_eq_true, Bool.not_true, Bool.not_false, cond_true, cond_false, small, Nat.reduceAdd, Nat.reduceLeDiff, decide_true, decide_false, reduceCtorEq, reduceIte, i1, i2, Pc.isB]
  | wait p =>
    have i1 : kInT false (.str "wait") (.tup (List.map W.str ["send", "take", "wait", "sends", "takes"])) st = .ok (.bl true) st := in_ (by decide +kernel)
    simp only [b_is_branch, Pc.w, fin_rt, fin_nx, fin_exc, x_cons, thenS_nx, thenS_rt, thenS_ct, thenS_exc, x_nil, x_set, x_expr, x_ret, x_if, x_cont, x_asg, x_par, x_par3, x_for, x_loop0, outL_nx, outL_ct, outL_rt, x_raise, x_var, getV_some, x_c, x_e2, x_eT, asB_bl, x_and, x_or, x_not, x_vand, x_vor, x_vnot, x_ifE, x_chain, x_anil, x_acons, x_tup, x_lst, x_lstM, x_call, x_callD, x_CB, x_M0, x_M, x_neg, x_isi, x_iL, x_iT, asL_lst, asT_tup, x_gN, x_gT2, x_lc, x_lcEnd, x_lcEndM, x_lc0, nox_ok, x_yes, k_ii, k_eqS, k_eqI, k_lenL, k_lenT, k_tupL, k_tupT, k_lstT, k_lstS, k_int, at_0, at_1, at_2, at_3, toR_some, k_ixT, k_ixL, k_isNN, k_isNT, isS_S, x_dput, Res.bind_ok, Res.bind_exc, Res.bind_bad, List.getElem?_cons_zero, List.getElem?_cons_succ, List.set_cons_zero, List.set_cons_succ, List.length_cons, List.length_nil, if_true, if_false, Bool.false_eq_true, Bool.not_true, Bool.not_false, cond_true, cond_false, small, Nat.reduceAdd, Nat.reduceLeDiff, decide_true, decide_false, reduceCtorEq, reduceIte, i1, Pc.isB]
  | nw x p =>
    have i1 : kInT false (.str "new") (.tup (List.map W.str ["send", "take", "wait", "sends", "takes"])) st = .ok (.bl false) st := in_ (by decide +kernel)
    have i2 : kInT false (.str "new") (.tup (List.map W.str ["alike", "unlike"])) st = .ok (.bl false) st := in_ (by decide +kernel)
    simp only [b_is_branch, Pc.w, fin_rt, fin_nx, fin_exc, x_cons, thenS_nx, thenS_rt, thenS_ct, thenS_exc, x_nil, x_set, x_expr, x_ret, x_if, x_cont, x_asg, x_par, x_par3, x_for, x_loop0, outL_nx, outL_ct, outL_rt, x_raise, x_var, getV_some, x_c, x_e2, x_eT, asB_bl, x_and, x_or, x_not, x_vand, x_vor, x_vnot, x_ifE, x_chain, x_anil, x_acons, x_tup, x_lst, x_lstM, x_call, x_callD, x_CB, x_M0, x_M, x_neg, x_isi, x_iL, x_iT, asL_lst, asT_tup, x_gN, x_gT2, x_lc, x_lcEnd, x_lcEndM, x_lc0, nox_ok, x_yes, k_ii, k_eqS, k_eqI, k_lenL, k_lenT, k_tupL, k_tupT, k_lstT, k_lstS, k_int, at_0, at_1, at_2, at_3, toR_some, k_ixT, k_ixL, k_isNN, k_isNT, isS_S, x_dput, Res.bind_ok, Res.bind_exc, Res.bind_bad, List.getElem?_cons_zero, List.getElem?_cons_succ, List.set_cons_zero, List.set_cons_succ, List.length_cons, List.length_nil, if_true, if_false, Bool.false_eq_true, Bool.not_true, Bool.not_false, cond_true, cond_false, small, Nat.reduceAdd, Nat.reduceLeDiff, decide_true, decide_false, reduceCtorEq, reduceIte, i1, i2, Pc.isB]
  | call k ns =>
    have i1 : kInT false (.str "call") (.tup (List.map W.str ["send", "take", "wait", "sends", "takes"])) st = .ok (.bl false) st := in_ (by decide +kernel)
    have i2 : kInT false (.str "call") (.tup (List.map W.str ["alike", "unlike"])) st = .ok (.bl false) st := in_ (by decide +kernel)
    simp only [b_is_branch, Pc.w, fin_rt, fin_nx, fin_exc, x_cons, thenS_nx, thenS_rt, thenS_ct, thenS_exc, x_nil, x_set, x_expr, x_ret, x_if, x_cont, x_asg, x_par, x_par3, x_for, x_loop0, outL_nx, outL_ct, outL_rt, x_raise, x_var, getV_some, x_c, x_e2, x_eT, asB_bl, x_and, x_or, x_not, x_vand, x_vor, x_vnot, x_ifE, x_chain, x_anil, x_acons, x_tup, x_lst, x_lstM, x_call, x_callD, x_CB, x_M0, x_M, x_neg, x_isi, x_iL, x_iT, asL_lst, asT_tup, x_gN, x_gT2, x_lc, x_lcEnd, x_lcEndM, x_lc0, nox_ok, x_yes, k_ii, k_eqS, k_eqI, k_lenL, k_lenT, k_tupL, k_tupT, k_lstT, k_lstS, k_int, at_0, at_1, at_2, at_3, toR_some, k_ixT, k_ixL, k_isNN, k_isNT, isS_S, x_dput, Res.bind_ok, Res.bind_exc, Res.bind_bad, List.getElem?_cons_zero, List.getElem?_cons_succ, List.set_cons_zero, List.set_cons_succ, List.length_cons, List.length_nil, if_true, if_false, Bool.false_eq_true, Bool.not_true, Bool.not_false, cond_true, cond_false, small, Nat.reduceAdd, Nat.reduceLeDiff, decide_true, decide_false, reduceCtorEq, reduceIte, i1, i2, Pc.isB]
  | pre hd x y p =>
    have i1 : kInT false (.str hd.w) (.tup (List.map W.str ["send", "take", "wait", "sends", "takes"])) st = .ok (.bl (!hd.tests)) st := in_ (by cases hd <;> decide +kernel)
    have i2 : kInT false (.str hd.w) (.tup (List.map W.str ["alike", "unlike"])) st = .ok (.bl hd.tests) st := in_ (by cases hd <;> decide +kernel)
    cases hd <;> simp only [Hd.tests] at i1 i2 <;> simp only [b_is_branch, Pc.w, fin_rt, fin_nx, fin_exc, x_cons, thenS_nx, thenS_rt, thenS_ct, thenS_exc, x_nil, x_set, x_expr, x_ret, x_if, x_cont, x_asg, x_par, x_par3, x_for, x_loop0, outL_nx, outL_ct, outL_rt, x_raise, x_var, getV_some, x_c, x_e2, x_eT, asB_bl, x_and, x_or, x_not, x_vand, x_vor, x_vnot, x_ifE, x_chain, x_anil, x_acons, x_tup, x_lst, x_lstM, x_call, x_callD, x_CB, x_M0, x_M, x_neg, x_isi, x_iL, x_iT, asL_lst, asT_tup, x_gN, x_gT2, x_lc, x_lcEnd, x_lcEndM, x_lc0, nox_ok, x_yes, k_ii, k_eqS, k_eqI, k_lenL, k_lenT, k_tupL, k_tupT, k_lstT, k_lstS, k_int, at_0, at_1, at_2, at_3, toR_some, k_ixT, k_ixL, k_isNN, k_isNT, isS_S, x_dput, Res.bind_ok, Res.bind_exc, Res.bind_bad, List.getElem?_cons_zero, List.getElem?_cons_succ, List.set_cons_zero, List.set_cons_succ, List.length_cons, List.length_nil, if_true, if_false, Bool.false_eq_true, Bool.not_true, Bool.not_false, cond_true, cond_false, small, Nat.reduceAdd, Nat.reduceLeDiff, decide_true, decide_false, reduceCtorEq, reduceIte, i1, i2, Pc.isB]
end K85
end
section
set_option Elab.async false
set_option linter.all false
set_option maxRecDepth 100000
set_option maxHeartbeats 1000000
/-! M13: pieces are checked. -/
namespace K85
open PySem Vl
section
variable {k : Nat} {st : Store} {r : Rl} (h : st[k]? = some (.D r.D))
include h
theorem g_widths : kDGet (.obj k) (.str "widths") st = .ok (.tup (r.ks.map nat)) st := by rw [dget h]; rfl
theorem g_branch : kDGet (.obj k) (.str "branch") st = .ok (.bl r.br) st := by rw [dget h]; rfl
theorem g_body : kDGet (.obj k) (.str "body") st = .ok (.bl r.bd) st := by rw [dget h]; rfl
theorem g_behind : kDGet (.obj k) (.str "behind") st = .ok (.bl r.bh) st := by rw [dget h]; rfl
theorem g_rows : kDGet (.obj k) (.str "rows") st = .ok (.bl false) st := by rw [dget h]; rfl
end
theorem put_branch {r : Rl} {b : Bool} : putW r.D "branch" (.bl b) = (Rl.mk r.ks b r.bd r.bh).D := rfl
theorem put_behind {r : Rl} {b : Bool} : putW r.D "behind" (.bl b) = (Rl.mk r.ks r.br r.bd b).D := rfl
theorem put_body {r : Rl} {b : Bool} : putW r.D "body" (.bl b) = (Rl.mk r.ks r.br b r.bh).D := rfl
theorem put_hole {r : Rl} : putW r.D "hole" (.bl false) = r.D := rfl
def Pc.fit (p : Pc) (r : Rl) : Prop := p.shp r.ks ∧ (r.br = true → p.isB = true) ∧ (r.bd = true → p.isBs = false ∧ (p.isCall = true → r.bh = true))
theorem beside_tag : ∀ p : Pc, decide (p.tag = "beside") = p.isBs
  | .sum true _ => (by decide +kernel : decide (("one" : Str) = "beside") = false)
  | .sum false _ => (by decide +kernel : decide (("beside" : Str) = "beside") = true)
  | .wait _ => (by decide +kernel : decide (("wait" : Str) = "beside") = false)
  | .nw _ _ => (by decide +kernel : decide (("new" : Str) = "beside") = false)
  | .call _ _ => (by decide +kernel : decide (("call" : Str) = "beside") = false)
  | .pre .send _ _ _ => (by decide +kernel : decide (("send" : Str) = "beside") = false)
  | .pre .take _ _ _ => (by decide +kernel : decide (("take" : Str) = "beside") = false)
  | .pre .alike _ _ _ => (by decide +kernel : decide (("alike" : Str) = "beside") = false)
  | .pre .unlike _ _ _ => (by decide +kernel : decide (("unlike" : Str) = "beside") = false)
theorem call_tag : ∀ p : Pc, decide (p.tag = "call") = p.isCall
  | .sum true _ => (by decide +kernel : decide (("one" : Str) = "call") = false)
  | .sum false _ => (by decide +kernel : decide (("beside" : Str) = "call") = false)
  | .wait _ => (by decide +kernel : decide (("wait" : Str) = "call") = false)
  | .nw _ _ => (by decide +kernel : decide (("new" : Str) = "call") = false)
  | .call _ _ => (by decide +kernel : decide (("call" : Str) = "call") = true)
  | .pre .send _ _ _ => (by decide +kernel : decide (("send" : Str) = "call") = false)
  | .pre .take _ _ _ => (by decide +kernel : decide (("take" : Str) = "call") = false)
  | .pre .alike _ _ _ => (by decide +kernel : decide (("alike" : Str) = "call") = false)
  | .pre .unlike _ _ _ => (by decide +kernel : decide (("unlike" : Str) = "call") = false)
theorem fits_ok {p : Pc} {k : Nat} {st : Store} {r : Rl} (h : st[k]? = some (.D r.D)) (hn : p.nm) (hd : p.d ≤ 32) (hf : p.fit r) : f_fits [p.w, .obj k] st = .ok (.bl true) st := by
  obtain ⟨h1, h2, h3⟩ := hf
  rw [u_fits]
  cases e1 : r.br with
  | false =>
    cases e2' : r.bd with
    | false => simp only [b_fits, fin_rt, fin_nx, fin_exc, x_cons, thenS_nx, thenS_rt, thenS_ct, thenS_exc, x_nil, x_set, x_expr, x_ret, x_if, x_cont, x_asg, x_par, x_par3, x_for, x_loop0, outL_nx, outL_ct, outL_rt, x_raise, x_var, getV_some, x_c, x_e2, x_eT, asB_bl, x_and, x_or, x_not, x_vand, x_vor, x_vnot, x_ifE, x_chain, x_anil, x_acons, x_tup, x_lst, x_lstM, x_call, x_callD, x_CB, x_M0, x_M, x_neg, x_isi, x_iL, x_iT, asL_lst, asT_tup, x_gN, x_gT2, x_lc, x_lcEnd, x_lcEndM, x_lc0, nox_ok, x_yes, k_ii, k_eqS, k_eqI, k_lenL, k_lenT, k_tupL, k_tupT, k_lstT, k_lstS, k_int, at_0, at_1, at_2, at_3, toR_some, k_ixT, k_ixL, k_isNN, k_isNT, isS_S, x_dput, Res.bind_ok, Res.bind_exc, Res.bind_bad, List.getElem?_cons_zero, List.getElem?_cons_succ, List.set_cons_zero, List.set_cons_succ, List.length_cons, List.length_nil, if_true, if_false, Bool.false_eq_true, Bool.not_true, Bool.not_false, cond_true, cond_false, small, Nat.reduceAdd, Nat.reduceLeDiff, decide_true, decide_false, reduceCtorEq, reduceIte, not_hole hn hd, g_widths h, g_rows h, has_shape_ok hn h1, g_branch h, is_branch_ok, g_body h, g_behind h, tag_at, beside_tag, call_tag, e1, e2']
    | true =>
      obtain ⟨q1, q2⟩ := h3 e2'
      cases e3 : p.isCall with
      | false => simp only [b_fits, fin_rt, fin_nx, fin_exc, x_cons, thenS_nx, thenS_rt, thenS_ct, thenS_exc, x_nil, x_set, x_expr, x_ret, x_if, x_cont, x_asg, x_par, x_par3, x_for, x_loop0, outL_nx, outL_ct, outL_rt, x_raise, x_var, getV_some, x_c, x_e2, x_eT, asB_bl, x_and, x_or, x_not, x_vand, x_vor, x_vnot, x_ifE, x_chain, x_anil, x_acons, x_tup, x_lst, x_lstM, x_call, x_callD, x_CB, x_M0, x_M, x_neg, x_isi, x_iL, x_iT, asL_lst, asT_tup, x_gN, x_gT2, x_lc, x_lcEnd, x_lcEndM, x_lc0, nox_ok, x_yes, k_ii, k_eqS, k_eqI, k_lenL, k_lenT, k_tupL, k_tupT, k_lstT, k_lstS, k_int, at_0, at_1, at_2, at_3, toR_some, k_ixT, k_ixL, k_isNN, k_isNT, isS_S, x_dput, Res.bind_ok, Res.bind_exc, Res.bind_bad, List.getElem?_cons_zero, List.getElem?_cons_succ, List.set_cons_zero, List.set_cons_succ, List.length_cons, List.length_nil, if_true, if_false, Bool.false_eq_true, Bool.not_true, Bool.not_false, cond_true, cond_false, small, Nat.reduceAdd, Nat.reduceLeDiff, decide_true, decide_false, reduceCtorEq, reduceIte, not_hole hn hd, g_widths h, g_rows h, has_shape_ok hn h1, g_branch h, is_branch_ok, g_body h, g_behind h, tag_at, beside_tag, call_tag, e1, e2', q1, e3]
      | true => simp only [b_fits, fin_rt, fin_nx, fin_exc, x_cons, thenS_nx, thenS_rt, thenS_ct, thenS_exc, x_nil, x_set, x_expr, x_ret, x_if, x_cont, x_asg, x_par, x_par3, x_for, x_loop0, outL_nx, outL_ct, outL_rt, x_raise, x_var, getV_some, x_c, x_e2, x_eT, asB_bl, x_and, x_or, x_not, x_vand, x_vor, x_vnot, x_ifE, x_chain, x_anil, x_acons, x_tup, x_lst, x_lstM, x_call, x_callD, x_CB, x_M0, x_M, x_neg, x_isi, x_iL, x_iT, asL_lst, asT_tup, x_gN, x_gT2, x_lc, x_lcEnd, x_lcEndM, x_lc0, nox_ok, x_yes, k_ii, k_eqS, k_eqI, k_lenL, k_lenT, k_tupL, k_tupT, k_lstT, k_lstS, k_int, at_0, at_1, at_2, at_3, toR_some, k_ixT, k_ixL, k_isNN, k_isNT, isS_S, x_dput, Res.bind_ok, Res.bind_exc, Res.bind_bad, List.getElem?_cons_zero, List.getElem?_cons_succ, List.set_cons_zero, List.set_cons_succ, List.length_cons, List.length_nil, if_true, if_false, Bool.false_eq_true, Bool.not_true, Bool.not_false, cond_true, cond_false, small, Nat.reduceAdd, Nat.reduceLeDiff, decide_true, decide_false, reduceCtorEq, reduceIte, not_hole hn hd, g_widths h, g_rows h, has_shape_ok hn h1, g_branch h, is_branch_ok, g_body h, g_behind h, tag_at, beside_tag, call_tag, e1, e2', q1, e3, q2 e3]
  | true =>
    cases e2' : r.bd with
    | false => simp only [b_fits, fin_rt, fin_nx, fin_exc, x_cons, thenS_nx, thenS_rt, thenS_ct, thenS_exc, x_nil, x_set, x_expr, x_ret, x_if, x_cont, x_asg, x_par, x_par3, x_for, x_loop0, outL_nx, outL_ct, outL_rt, x_raise, x_var, getV_some, x_c, x_e2, x_eT, asB_bl, x_and, x_or, x_not, x_vand, x_vor, x_vnot, x_ifE, x_chain, x_anil, x_acons, x_tup, x_lst, x_lstM, x_call, x_callD, x_CB, x_M0, x_M, x_neg, x_isi, x_iL, x_iT, asL_lst, asT_tup, x_gN, x_gT2, x_lc, x_lcEnd, x_lcEndM, x_lc0, nox_ok, x_yes, k_ii, k_eqS, k_eqI, k_lenL, k_lenT, k_tupL, k_tupT, k_lstT, k_lstS, k_int, at_0, at_1, at_2, at_3, toR_some, k_ixT, k_ixL, k_isNN, k_isNT, isS_S, x_dput, Res.bind_ok, Res.bind_exc, Res.bind_bad, List.getElem?_cons_zero, List.getElem?_cons_succ, List.set_cons_zero, List.set_cons_succ, List.length_cons, List.length_nil, if_true, if_false, Bool.false_eq_true, Bool.not_true, Bool.not_false, cond_true, cond_false, small, Nat.reduceAdd, Nat.reduceLeDiff, decide_true, decide_false, reduceCtorEq, reduceIte, not_hole hn hd, g_widths h, g_rows h, has_shape_ok hn h1, g_branch h, is_branch_ok, g_body h, g_behind h, tag_at, beside_tag, call_tag, e1, e2', h2 e1]
    | true =>
      obtain ⟨q1, q2⟩ := h3 e2'
      cases e3 : p.isCall with
      | false => simp only [b_fits, fin_rt, fin_nx, fin_exc, x_cons, thenS_nx, thenS_rt, thenS_ct, thenS_exc, x_nil, x_set, x_expr, x_ret, x_if, x_cont, x_asg, x_par, x_par3, x_for, x_loop0, outL_nx, outL_ct, outL_rt, x_raise, x_var, getV_some, x_c, x_e2, x_eT, asB_bl, x_and, x_or, x_not, x_vand, x_vor, x_vnot, x_ifE, x_chain, x_anil, x_acons, x_tup, x_lst, x_lstM, x_call, x_callD, x_CB, x_M0, x_M, x_neg, x_isi, x_iL, x_iT, asL_lst, asT_tup, x_gN, x_gT2, x_lc, x_lcEnd, x_lcEndM, x_lc0, nox_ok, x_yes, k_ii, k_eqS, k_eqI, k_lenL, k_lenT, k_tupL, k_tupT, k_lstT, k_lstS, k_int, at_0, at_1, at_2, at_3, toR_some, k_ixT, k_ixL, k_isNN, k_isNT, isS_S, x_dput, Res.bind_ok, Res.bind_exc, Res.bind_bad, List.getElem?_cons_zero, List.getElem?_cons_succ, List.set_cons_zero, List.set_cons_succ, List.length_cons, List.length_nil, if_true, if_false, Bool.false_eq_true, Bool.not_true, Bool.not_false, cond_true, cond_false, small, Nat.reduceAdd, Nat.reduceLeDiff, decide_true, decide_false, reduceCtorEq, reduceIte, not_hole hn hd, g_widths h, g_rows h, has_shape_ok hn h1, g_branch h, is_branch_ok, g_body h, g_behind h, tag_at, beside_tag, call_tag, e1, e2', h2 e1, q1, e3]
      | true => simp only [b_fits, fin_rt, fin_nx, fin_exc, x_cons, thenS_nx, thenS_rt, thenS_ct, thenS_exc, x_nil, x_set, x_expr, x_ret, x_if, x_cont, x_asg, x_par, x_par3, x_for, x_loop0, outL_nx, outL_ct, outL_rt, x_raise, x_var, getV_some, x_c, x_e2, x_eT, asB_bl, x_and, x_or, x_not, x_vand, x_vor, x_vnot, x_ifE, x_chain, x_anil, x_acons, x_tup, x_lst, x_lstM, x_call, x_callD, x_CB, x_M0, x_M, x_neg, x_isi, x_iL, x_iT, asL_lst, asT_tup, x_gN, x_gT2, x_lc, x_lcEnd, x_lcEndM, x_lc0, nox_ok, x_yes, k_ii, k_eqS, k_eqI, k_lenL, k_lenT, k_tupL, k_tupT, k_lstT, k_lstS, k_int, at_0, at_1, at_2, at_3, toR_some, k_ixT, k_ixL, k_isNN, k_isNT, isS_S, x_dput, Res.bind_ok, Res.bind_exc, Res.bind_bad, List.getElem?_cons_zero, List.getElem?_cons_succ, List.set_cons_zero, List.set_cons_succ, List.length_cons, List.length_nil, if_true, if_false, Bool.false_eq_true, Bool.not_true, Bool.not_false, cond_true, cond_false, small, Nat.reduceAdd, Nat.reduceLeDiff, decide_true, decide_false, reduceCtorEq, reduceIte, not_hole hn hd, g_widths h, g_rows h, has_shape_ok hn h1, g_branch h, is_branch_ok, g_body h, g_behind h, tag_at, beside_tag, call_tag, e1, e2', h2 e1, q1, e3, q2 e3]
/-! ### what is inside -/
def inL : List Pc → Nat → List (List W × Pc)
  | [], _ => []
  | p :: l, k => ([.int 1, nat k], p) :: inL l (k + 1)
def Pc.inP : Pc → List (List W × Pc)
  | .sum _ l => inL l 0
  | .wait p => [([.int 1], p)]
  | .nw _ p => [([.int 2], p)]
  | .call _ _ => []
  | .pre _ _ _ p => [([.int 3], p)]
def inW (q : List W × Pc) : W := .tup [.tup q.1, q.2.w]
theorem lc_in {a b : W} {st : Store} : ∀ (l : List Pc) (k : Nat) (acc : List W) (x y : Option W), acc.length + l.length ≤ 900000 →
    lcLoop (gT 2 (gsCons (gN 2) (gsCons (gN 3) gsNil))) bYes (eTup (aCons (eTup (aCons (eC (.int 1)) (aCons (eVar 2) aNil))) (aCons (eVar 3) aNil))) (((Pc.wl l).zipIdx k).map fun p => .tup [.int (p.2 : Nat), p.1]) acc [some a, some b, x, y] st = .ok (acc ++ (inL l k).map inW) st
  | [], k, acc, x, y, _ => by simp [Pc.wl, inL, x_lc0]
  | p :: l, k, acc, x, y, hl => by
    simp only [List.length_cons] at hl
    have ih := lc_in (a := a) (b := b) (st := st) l (k + 1) (acc ++ [.tup [.tup [.int 1, .int (k : Nat)], p.w]]) x y (by simp; omega)
    simp only [Pc.wl, List.zipIdx_cons, List.map_cons, x_lcS]
    simp only [fin_rt, fin_nx, fin_exc, x_cons, thenS_nx, thenS_rt, thenS_ct, thenS_exc, x_nil, x_set, x_expr, x_ret, x_if, x_cont, x_asg, x_par, x_par3, x_for, x_loop0, outL_nx, outL_ct, outL_rt, x_raise, x_var, getV_some, x_c, x_e2, x_eT, asB_bl, x_and, x_or, x_not, x_vand, x_vor, x_vnot, x_ifE, x_chain, x_anil, x_acons, x_tup, x_lst, x_lstM, x_call, x_callD, x_CB, x_M0, x_M, x_neg, x_isi, x_iL, x_iT, asL_lst, asT_tup, x_gN, x_gT2, x_lc, x_lcEnd, x_lcEndM, x_lc0, nox_ok, x_yes, k_ii, k_eqS, k_eqI, k_lenL, k_lenT, k_tupL, k_tupT, k_lstT, k_lstS, k_int, at_0, at_1, at_2, at_3, toR_some, k_ixT, k_ixL, k_isNN, k_isNT, isS_S, x_dput, Res.bind_ok, Res.bind_exc, Res.bind_bad, List.getElem?_cons_zero, List.getElem?_cons_succ, List.set_cons_zero, List.set_cons_succ, List.length_cons, List.length_nil, if_true, if_false, Bool.false_eq_true, Bool.not_true, Bool.not_false, cond_true, cond_false, small, Nat.reduceAdd, Nat.reduceLeDiff, decide_true, decide_false, reduceCtorEq, reduceIte]
    rw [if_pos (decide_eq_true (by omega)), ih]
    simp [inL, inW]
theorem inside_ok {p : Pc} {st : Store} (h : (Pc.inP p).length ≤ 100000) : f_inside [p.w] st = .ok (.lst (p.inP.map inW)) st := by
  rw [u_inside]
  cases p with
  | sum b l =>
    have i3 : kInT false (.str (cond b "one" "beside")) (.tup [.str "one", .str "beside"]) st = .ok (.bl true) st := in_ (l := ["one", "beside"]) (by cases b <;> decide +kernel)
    have hl : ∀ (l : List Pc) (k : Nat), (inL l k).length = l.length := by
      intro l
      induction l with
      | nil => intro k; rfl
      | cons p l ih => intro k; simp [inL, ih]
    have e := lc_in (a := (Pc.sum b l).w) (b := .str (cond b "one" "beside")) (st := st) l 0 [] none none (by have := hl l 0; simp only [Pc.inP] at h; simp; omega)
    have e2' : iEnT (aCons (e2 kIxT (eVar 0) (eC (.int 1))) aNil) [some (Pc.sum b l).w, some (.str (cond b "one" "beside")), none, none] st = .ok (((Pc.wl l).zipIdx 0).map fun p => .tup [.int (p.2 : Nat), p.1]) st := rfl
    simp only [Pc.w] at e e2'
    simp only [b_inside, Pc.w, fin_rt, fin_nx, fin_exc, x_cons, thenS_nx, thenS_rt, thenS_ct, thenS_exc, x_nil, x_set, x_expr, x_ret, x_if, x_cont, x_asg, x_par, x_par3, x_for, x_loop0, outL_nx, outL_ct, outL_rt, x_raise, x_var, getV_some, x_c, x_e2, x_eT, asB_bl, x_and, x_or, x_not, x_vand, x_vor, x_vnot, x_ifE, x_chain, x_anil, x_acons, x_tup, x_lst, x_lstM, x_call, x_callD, x_CB, x_M0, x_M, x_neg, x_isi, x_iL, x_iT, asL_lst, asT_tup, x_gN, x_gT2, x_lc, x_lcEnd, x_lcEndM, x_lc0, nox_ok, x_yes, k_ii, k_eqS, k_eqI, k_lenL, k_lenT, k_tupL, k_tupT, k_lstT, k_lstS, k_int, at_0, at_1, at_2, at_3, toR_some, k_ixT, k_ixL, k_isNN, k_isNT, isS_S, x_dput, Res.bind_ok, Res.bind_exc, Res.bind_bad, List.getElem?_cons_zero, List.getElem?_cons_succ, List.set_cons_zero, List.set_cons_succ, List.length_cons, List.length_nil, if_true, if_false, Bool.false_eq_true, Bool.not_true, Bool.not_false, cond_true, cond_false, small, Nat.reduceAdd, Nat.reduceLeDiff, decide_true, decide_false, reduceCtorEq, reduceIte, i3, e2', e, Pc.inP, List.nil_append]
  | wait p =>
    have i3 : kInT false (.str "wait") (.tup [.str "one", .str "beside"]) st = .ok (.bl false) st := in_ (l := ["one", "beside"]) (by decide +kernel)
    have d1 : decide (("wait" : Str) = "wait") = true := by decide +kernel
    simp only [b_inside, Pc.w, fin_rt, fin_nx, fin_exc, x_cons, thenS_nx, thenS_rt, thenS_ct, thenS_exc, x_nil, x_set, x_expr, x_ret, x_if, x_cont, x_asg, x_par, x_par3, x_for, x_loop0, outL_nx, outL_ct, outL_rt, x_raise, x_var, getV_some, x_c, x_e2, x_eT, asB_bl, x_and, x_or, x_not, x_vand, x_vor, x_vnot, x_ifE, x_chain, x_anil, x_acons, x_tup, x_lst, x_lstM, x_call, x_callD, x_CB, x_M0, x_M, x_neg, x_isi, x_iL, x_iT, asL_lst, asT_tup, x_gN, x_gT2, x_lc, x_lcEnd, x_lcEndM, x_lc0, nox_ok, x_yes, k_ii, k_eqS, k_eqI, k_lenL, k_lenT, k_tupL, k_tupT, k_lstT, k_lstS, k_int, at_0, at_1, at_2, at_3, toR_some, k_ixT, k_ixL, k_isNN, k_isNT, isS_S, x_dput, Res.bind_ok, Res.bind_exc, Res.bind_bad, List.getElem?_cons_zero, List.getElem?_cons_succ, List.set_cons_zero, List.set_cons_succ, List.length_cons, List.length_nil, if_true, if_false, Bool.false_eq_true, Bool.not_true, Bool.not_false, cond_true, cond_false, small, Nat.reduceAdd, Nat.reduceLeDiff, decide_true, decide_false, reduceCtorEq, reduceIte, i3, d1, Pc.inP, List.map_cons, List.map_nil, inW]
  | nw x p =>
    have i3 : kInT false (.str "new") (.tup [.str "one", .str "beside"]) st = .ok (.bl false) st := in_ (l := ["one", "beside"]) (by decide +kernel)
    have d1 : decide (("new" : Str) = "wait") = false := by decide +kernel
    have d2 : decide (("new" : Str) = "new") = true := by decide +kernel
    simp only [b_inside, Pc.w, fin_rt, fin_nx, fin_exc, x_cons, thenS_nx, thenS_rt, thenS_ct, thenS_exc, x_nil, x_set, x_expr, x_ret, x_if, x_cont, x_asg, x_par, x_par3, x_for, x_loop0, outL_nx, outL_ct, outL_rt, x_raise, x_var, getV_some, x_c, x_e2, x_eT, asB_bl, x_and, x_or, x_not, x_vand, x_vor, x_vnot, x_ifE, x_chain, x_anil, x_acons, x_tup, x_lst, x_lstM, x_call, x_callD, x_CB, x_M0, x_M, x_neg, x_isi, x_iL, x_iT, asL_lst, asT_tup, x_gN, x_gT2, x_lc, x_lcEnd, x_lcEndM, x_lc0, nox_ok, x_yes, k_ii, k_eqS, k_eqI, k_lenL, k_lenT, k_tupL, k_tupT, k_lstT, k_lstS, k_int, at_0, at_1, at_2, at_3, toR_some, k_ixT, k_ixL, k_isNN, k_isNT, isS_S, x_dput, Res.bind_ok, Res.bind_exc, Res.bind_bad, List.getElem?_cons_zero, List.getElem?_cons_succ, List.set_cons_zero, List.set_cons_succ, List.length_cons, List.length_nil, if_true, if_false, Bool.false_eq_true, Bool.not_true, Bool.not_false, cond_true, cond_false, small, Nat.reduceAdd, Nat.reduceLeDiff, decide_true, decide_false, reduceCtorEq, reduceIte, i3, d1, d2, Pc.inP, List.map_cons, List.map_nil, inW]
  | call k ns =>
    have i3 : kInT false (.str "call") (.tup [.str "one", .str "beside"]) st = .ok (.bl false) st := in_ (l := ["one", "beside"]) (by decide +kernel)
    have i4 : kInT false (.str "call") (.tup (List.map W.str ["send", "take", "alike", "unlike", "sends", "takes"])) st = .ok (.bl false) st := in_ (by decide +kernel)
    have d1 : decide (("call" : Str) = "wait") = false := by decide +kernel
    have d2 : decide (("call" : Str) = "new") = false := by decide +kernel
    simp only [b_inside, Pc.w, fin_rt, fin_nx, fin_exc, x_cons, thenS_nx, thenS_rt, thenS_ct, thenS_exc, x_nil, x_set, x_expr, x_ret, x_if, x_cont, x_asg, x_par, x_par3, x_for, x_loop0, outL_nx, outL_ct, outL_rt, x_raise, x_var, getV_some, x_c, x_e2, x_eT, asB_bl, x_and, x_or, x_not, x_vand, x_vor, x_vnot, x_ifE, x_chain, x_anil, x_acons, x_tup, x_lst, x_lstM, x_call, x_callD, x_CB, x_M0, x_M, x_neg, x_isi, x_iL, x_iT, asL_lst, asT_tup, x_gN, x_gT2, x_lc, x_lcEnd, x_lcEndM, x_lc0, nox_ok, x_yes, k_ii, k_eqS, k_eqI, k_lenL, k_lenT, k_tupL, k_tupT, k_lstT, k_lstS, k_int, at_0, at_1, at_2, at_3, toR_some, k_ixT, k_ixL, k_isNN, k_isNT, isS_S, x_dput, Res.bind_ok, Res.bind_exc, Res.bind_bad, List.getElem?_cons_zero, List.getElem?_cons_succ, List.set_cons_zero, List.set_cons_succ, List.length_cons, List.length_nil, if_true, if_false, Bool.false_eq_true, Bool.not_true, Bool.not_false, cond_true, cond_false, small, Nat.reduceAdd, Nat.reduceLeDiff, decide_true, decide_false, reduceCtorEq, reduceIte, i3, i4, d1, d2, Pc.inP, List.map_nil]
  | pre hd x y p =>
    have i3 : kInT false (.str hd.w) (.tup [.str "one", .str "beside"]) st = .ok (.bl false) st := in_ (l := ["one", "beside"]) (by cases hd <;> decide +kernel)
    have i4 : kInT false (.str hd.w) (.tup (List.map W.str ["send", "take", "alike", "unlike", "sends", "takes"])) st = .ok (.bl true) st := in_ (by cases hd <;> decide +kernel)
    have d1 : decide (hd.w = "wait") = false := by cases hd <;> decide +kernel
    have d2 : decide (hd.w = "new") = false := by cases hd <;> decide +kernel
    simp only [b_inside, Pc.w, fin_rt, fin_nx, fin_exc, x_cons, thenS_nx, thenS_rt, thenS_ct, thenS_exc, x_nil, x_set, x_expr, x_ret, x_if, x_cont, x_asg, x_par, x_par3, x_for, x_loop0, outL_nx, outL_ct, outL_rt, x_raise, x_var, getV_some, x_c, x_e2, x_eT, asB_bl, x_and, x_or, x_not, x_vand, x_vor, x_vnot, x_ifE, x_chain, x_anil, x_acons, x_tup, x_lst, x_lstM, x_call, x_callD, x_CB, x_M0, x_M, x_neg, x_isi, x_iL, x_iT, asL_lst, asT_tup, x_gN, x_gT2, x_lc, x_lcEnd, x_lcEndM, x_lc0, nox_ok, x_yes, k_ii, k_eqS, k_eqI, k_lenL, k_lenT, k_tupL, k_tupT, k_lstT, k_lstS, k_int, at_0, at_1, at_2, at_3, toR_some, k_ixT, k_ixL, k_isNN, k_isNT, isS_S, x_dput, Res.bind_ok, Res.bind_exc, Res.bind_bad, List.getElem?_cons_zero, List.getElem?_cons_succ, List.set_cons_zero, List.set_cons_succ, List.length_cons, List.length_nil, if_true, if_false, Bool.false_eq_true, Bool.not_true, Bool.not_false, cond_true, cond_false, small, Nat.reduceAdd, Nat.reduceLeDiff, decide_true, decide_false, reduceCtorEq, reduceIte, i3, i4, d1, d2, Pc.inP]
    rfl
/-! ### checked -/
def Pc.brn : Pc → Bool
  | .sum b _ => b
  | .pre h _ _ _ => h.tests
  | _ => false
def Pc.stw : Pc → Bool
  | .wait _ => true
  | .pre h _ _ _ => !h.tests
  | _ => false
def Pc.nx (p : Pc) (r : Rl) : Rl := ⟨r.ks, p.brn, r.bd, r.bh || p.stw⟩
mutual
def Pc.sz : Pc → Nat
  | .sum _ l => 1 + Pc.szl l
  | .wait p => 1 + p.sz
  | .nw _ p => 1 + p.sz
  | .call _ _ => 1
  | .pre _ _ _ p => 1 + p.sz
def Pc.szl : List Pc → Nat
  | [] => 0
  | p :: l => p.sz + Pc.szl l
end
mutual
def Pc.chk : Pc → Rl → Prop
  | .sum b l, r => (Pc.sum b l).fit r ∧ Pc.chkl l ((Pc.sum b l).nx r)
  | .wait p, r => (Pc.wait p).fit r ∧ p.chk ((Pc.wait p).nx r)
  | .nw x p, r => (Pc.nw x p).fit r ∧ p.chk ((Pc.nw x p).nx r)
  | .call k ns, r => (Pc.call k ns).fit r
  | .pre h x y p, r => (Pc.pre h x y p).fit r ∧ p.chk ((Pc.pre h x y p).nx r)
def Pc.chkl : List Pc → Rl → Prop
  | [], _ => True
  | p :: l, r => p.chk r ∧ Pc.chkl l r
end
inductive Tg where
  | one | bes | wait | new | call | send | take | alike | unlike
def Tg.w : Tg → Str
  | .one => "one"
  | .bes => "beside"
  | .wait => "wait"
  | .new => "new"
  | .call => "call"
  | .send => "send"
  | .take => "take"
  | .alike => "alike"
  | .unlike => "unlike"
def Tg.brn : Tg → Bool
  | .one => true
  | .alike => true
  | .unlike => true
  | _ => false
def Tg.stw : Tg → Bool
  | .send => true
  | .take => true
  | .wait => true
  | _ => false
def Tg.tst : Tg → Bool
  | .alike => true
  | .unlike => true
  | _ => false
def Pc.tg : Pc → Tg
  | .sum true _ => .one
  | .sum false _ => .bes
  | .wait _ => .wait
  | .nw _ _ => .new
  | .call _ _ => .call
  | .pre .send _ _ _ => .send
  | .pre .take _ _ _ => .take
  | .pre .alike _ _ _ => .alike
  | .pre .unlike _ _ _ => .unlike
def Pc.tst (p : Pc) : Bool := p.tg.tst
theorem tag_tg (p : Pc) : p.tag = p.tg.w := by
  cases p with
  | sum b l => cases b <;> rfl
  | pre h x y p => cases h <;> rfl
  | _ => rfl
theorem brn_tg (p : Pc) : p.brn = p.tg.brn := by
  cases p with
  | sum b l => cases b <;> rfl
  | pre h x y p => cases h <;> rfl
  | _ => rfl
theorem stw_tg (p : Pc) : p.stw = p.tg.stw := by
  cases p with
  | sum b l => cases b <;> rfl
  | pre h x y p => cases h <;> rfl
  | _ => rfl
theorem brn_tag (p : Pc) {st : Store} : kInT false (.str p.tag) (.tup (List.map W.str ["alike", "unlike"])) st = .ok (.bl p.tst) st := by
  rw [tag_tg]
  exact in_ ((by intro t; cases t <;> decide +kernel : ∀ t : Tg, chk false t.w ["alike", "unlike"] t.tst = true) p.tg)
theorem brn_or (p : Pc) : (if p.tst = true then true else decide (p.tag = "one")) = p.brn := by
  rw [tag_tg, brn_tg]
  exact (by intro t; cases t <;> decide +kernel : ∀ t : Tg, (if t.tst = true then true else decide (t.w = "one")) = t.brn) p.tg
theorem stw_tag (p : Pc) {st : Store} : kInT false (.str p.tag) (.tup (List.map W.str ["send", "take", "wait", "sends", "takes"])) st = .ok (.bl p.stw) st := by
  rw [tag_tg, stw_tg]
  exact in_ ((by intro t; cases t <;> decide +kernel : ∀ t : Tg, chk false t.w ["send", "take", "wait", "sends", "takes"] t.stw = true) p.tg)
theorem sz_pos (p : Pc) : 0 < p.sz := by cases p <;> simp [Pc.sz] <;> omega
def szs (L : List (List W × Pc)) : Nat := (L.map fun q => q.2.sz).sum
theorem szs_in : ∀ (l : List Pc) (k : Nat), szs (inL l k) = Pc.szl l
  | [], _ => rfl
  | p :: l, k => by
    have := szs_in l (k + 1)
    simp only [szs, inL, List.map_cons, List.sum_cons, Pc.szl] at this ⊢
    rw [this]
theorem sz_in (p : Pc) : p.sz = 1 + szs p.inP := by
  cases p with
  | sum b l => simp only [Pc.sz, Pc.inP, szs_in]
  | _ => simp [Pc.sz, Pc.inP, szs]
theorem in_inL {q : List W × Pc} : ∀ {l : List Pc} {k : Nat}, q ∈ inL l k → q.2 ∈ l ∧ q.1.length = 2
  | p :: l, k, h => by
    rcases List.mem_cons.mp h with rfl | h
    · exact ⟨List.mem_cons_self .., rfl⟩
    · obtain ⟨h1, h2⟩ := in_inL h
      exact ⟨List.mem_cons_of_mem _ h1, h2⟩
theorem chkl_of {p : Pc} {r : Rl} : ∀ {l : List Pc}, p ∈ l → Pc.chkl l r → p.chk r
  | q :: l, h, hn => by
    rcases List.mem_cons.mp h with rfl | h
    · exact hn.1
    · exact chkl_of h hn.2
theorem in_facts {p : Pc} {r : Rl} (hn : p.nm) (hc : p.chk r) : p.fit r ∧ ∀ q ∈ p.inP, q.1.length ≤ 2 ∧ q.2.nm ∧ q.2.chk (p.nx r) ∧ q.2.d < p.d := by
  cases p with
  | sum b l =>
    refine ⟨hc.1, fun q hq => ?_⟩
    obtain ⟨h1, h2⟩ := in_inL hq
    exact ⟨by omega, nml_of h1 hn, chkl_of h1 hc.2, by have := dl_le h1; simp [Pc.d]; omega⟩
  | wait p => exact ⟨hc.1, fun q hq => by rw [List.mem_singleton.mp hq]; exact ⟨by simp, hn, hc.2, by simp [Pc.d]⟩⟩
  | nw x p => exact ⟨hc.1, fun q hq => by rw [List.mem_singleton.mp hq]; exact ⟨by simp, hn.2, hc.2, by simp [Pc.d]⟩⟩
  | call k ns => exact ⟨hc, fun q hq => by cases hq⟩
  | pre h x y p => exact ⟨hc.1, fun q hq => by rw [List.mem_singleton.mp hq]; exact ⟨by simp, hn.2.2, hc.2, by simp [Pc.d]⟩⟩
theorem checked_loop {F : List W → Store → Res W} {a c d0 : W} {path : List W} {deep k j : Nat} {r : Rl} {s0 : Store} (hk : k < s0.length) (hk2 : s0[k]? = some (.D r.D)) : ∀ (L : List (List W × Pc)) (parts : Nat) (st : Store) (x y : Option W), Grew s0 st → path.length ≤ 1000 → parts + szs L ≤ j →
    (∀ q ∈ L, q.1.length ≤ 2 ∧ ∀ (path' : List W) (parts' : Nat) (st' : Store), st'[k]? = some (.D r.D) → path'.length ≤ path.length + 2 → parts' + q.2.sz ≤ j → ∃ st2, Grew st' st2 ∧ F [q.2.w, .tup path', .int (deep + 1 : Nat), .int parts', .obj k] st' = .ok (.int (parts' + q.2.sz : Nat)) st2) →
    ∃ st' x' y', Grew s0 st' ∧ sLoop (gT 2 (gsCons (gN 7) (gsCons (gN 8) gsNil))) (sSet 6 (eCall 5 F (aCons (eVar 8) (aCons (e2 kCatT (eVar 1) (eVar 7)) (aCons (e2 kAdd (eVar 2) (eC (.int 1))) (aCons (eVar 6) (aCons (eVar 5) aNil))))))) (L.map inW) [some a, some (.tup path), some (.int deep), some c, some d0, some (.obj k), some (.int parts), x, y] st
      = .ok (.nx [some a, some (.tup path), some (.int deep), some c, some d0, some (.obj k), some (.int (parts + szs L : Nat)), x', y']) st'
  | [], parts, st, x, y, hg, _, _, _ => ⟨st, x, y, hg, by simp [x_loop0, szs]⟩
  | q :: L, parts, st, x, y, hg, hp, hj, h => by
    obtain ⟨h1, h2⟩ := h q (List.mem_cons_self ..)
    have e0 : szs (q :: L) = q.2.sz + szs L := by simp [szs]
    rw [e0] at hj
    obtain ⟨st2, g2, e2'⟩ := h2 (path ++ q.1) parts st (hg.get hk2) (by simp; omega) (by omega)
    obtain ⟨st', x', y', g3, e3⟩ := checked_loop hk hk2 L (parts + q.2.sz) st2 (some (.tup q.1)) (some q.2.w) (hg.trans g2) hp (by omega) fun z hz => h z (List.mem_cons_of_mem _ hz)
    refine ⟨st', x', y', g3, ?_⟩
    have e1 : kCatT (.tup path) (.tup q.1) st = .ok (.tup (path ++ q.1)) st := k_catT (small_len (by simp; omega))
    rw [List.map_cons, x_loop]
    simp only [inW, fin_rt, fin_nx, fin_exc, x_cons, thenS_nx, thenS_rt, thenS_ct, thenS_exc, x_nil, x_set, x_expr, x_ret, x_if, x_cont, x_asg, x_par, x_par3, x_for, x_loop0, outL_nx, outL_ct, outL_rt, x_raise, x_var, getV_some, x_c, x_e2, x_eT, asB_bl, x_and, x_or, x_not, x_vand, x_vor, x_vnot, x_ifE, x_chain, x_anil, x_acons, x_tup, x_lst, x_lstM, x_call, x_callD, x_CB, x_M0, x_M, x_neg, x_isi, x_iL, x_iT, asL_lst, asT_tup, x_gN, x_gT2, x_lc, x_lcEnd, x_lcEndM, x_lc0, nox_ok, x_yes, k_ii, k_eqS, k_eqI, k_lenL, k_lenT, k_tupL, k_tupT, k_lstT, k_lstS, k_int, at_0, at_1, at_2, at_3, toR_some, k_ixT, k_ixL, k_isNN, k_isNT, isS_S, x_dput, Res.bind_ok, Res.bind_exc, Res.bind_bad, List.getElem?_cons_zero, List.getElem?_cons_succ, List.set_cons_zero, List.set_cons_succ, List.length_cons, List.length_nil, if_true, if_false, Bool.false_eq_true, Bool.not_true, Bool.not_false, cond_true, cond_false, small, Nat.reduceAdd, Nat.reduceLeDiff, decide_true, decide_false, reduceCtorEq, reduceIte, e1, succI, e2']
    rw [e0, show parts + (q.2.sz + szs L) = parts + q.2.sz + szs L by omega]
    exact e3
theorem checked_ok : ∀ (n : Nat) (p : Pc) (r : Rl) (path : List W) (deep parts k : Nat) (st : Store), st[k]? = some (.D r.D) → p.nm → p.chk r → p.d < n → deep + p.d ≤ 13 → path.length + 2 * p.d ≤ 1000 → parts + p.sz ≤ 80 →
    ∃ st', Grew st st' ∧ f_checked n [p.w, .tup path, .int deep, .int parts, .obj k] st = .ok (.int (parts + p.sz : Nat)) st'
  | 0, p, r, path, deep, parts, k, st, _, _, _, h, _, _, _ => absurd h (Nat.not_lt_zero _)
  | n + 1, p, r, path, deep, parts, k, st, hk, hn, hc, hd, h12, hpl, h80 => by
    obtain ⟨h1, h2⟩ := in_facts hn hc
    have hd1 : 0 < p.d := by cases p <;> simp [Pc.d]
    have hs := sz_pos p
    have q1 : decide ((12 : Int) < (deep : Int)) = false := decide_eq_false (by omega)
    have q2 : decide ((parts : Int) = 80) = false := decide_eq_false (by omega)
    have hin : p.inP.length ≤ 80 := by
      have : ∀ L : List (List W × Pc), L.length ≤ szs L := by
        intro L
        induction L with
        | nil => exact Nat.le_refl _
        | cons z L ih =>
          have := sz_pos z.2
          simp only [szs, List.length_cons, List.map_cons, List.sum_cons] at ih ⊢
          omega
      have := this p.inP
      have := sz_in p
      omega
    have hkl : k < st.length := (List.getElem?_eq_some_iff.mp hk).1
    have e1 : kDict [.obj k] st = .ok (.obj st.length) (st ++ [.D r.D]) := by
      unfold kDict
      simp only [hk]
    have p1 : (st ++ [MO.D r.D])[st.length]? = some (.D r.D) := top_get
    have p2 : (st ++ [MO.D (Rl.mk r.ks p.brn r.bd r.bh).D])[st.length]? = some (.D (Rl.mk r.ks p.brn r.bd r.bh).D) := top_get
    have p3 : (st ++ [MO.D (Rl.mk r.ks p.brn r.bd r.bh).D])[k]? = some (.D r.D) := by rw [List.getElem?_append_left hkl]; exact hk
    have len1 : ∀ r : Rl, (r.D.length < 1000) = True := fun r => by simp [Rl.D]
    have g1 : Grew st (st ++ [MO.D (p.nx r).D]) := Grew.refl.push rfl
    have hn2 : (st ++ [MO.D (p.nx r).D])[st.length]? = some (.D (p.nx r).D) := top_get
    obtain ⟨st', x', y', g3, e3⟩ := checked_loop (F := f_checked n) (a := p.w) (c := .int parts) (d0 := .obj k) (path := path) (deep := deep) (k := st.length) (j := 80) (r := p.nx r) (s0 := st ++ [MO.D (p.nx r).D]) (by simp) hn2 p.inP (parts + 1) (st ++ [MO.D (p.nx r).D]) none none Grew.refl (by omega) (by have := sz_in p; omega)
      fun q hq => by
        obtain ⟨z1, z2, z3, z4⟩ := h2 q hq
        exact ⟨z1, fun path' parts' st2 y1 y2 y3 => checked_ok n q.2 (p.nx r) path' (deep + 1) parts' st.length st2 y1 z2 z3 (by omega) (by omega) (by omega) y3⟩
    refine ⟨st', g1.trans g3, ?_⟩
    have e4 := inside_ok (p := p) (st := st ++ [MO.D (p.nx r).D]) (by omega)
    have b1 := brn_or p
    have hk2' : (st ++ [MO.D (Rl.mk r.ks p.brn r.bd r.bh).D])[k]? = some (.D r.D) := p3
    rw [u_checked]
    cases hb : p.tst with
    | false =>
      rw [hb] at b1
      simp only [Bool.false_eq_true, if_false] at b1
      cases hr : r.bh with
      | false =>
        simp only [Pc.nx, hr, Bool.false_or, Bool.true_or] at e3 e4
        rw [hr] at p2 p3
        have g5 := g_behind hk2'
        simp only [hr] at g5
        simp only [b_checked, fin_rt, fin_nx, fin_exc, x_cons, thenS_nx, thenS_rt, thenS_ct, thenS_exc, x_nil, x_set, x_expr, x_ret, x_if, x_cont, x_asg, x_par, x_par3, x_for, x_loop0, outL_nx, outL_ct, outL_rt, x_raise, x_var, getV_some, x_c, x_e2, x_eT, asB_bl, x_and, x_or, x_not, x_vand, x_vor, x_vnot, x_ifE, x_chain, x_anil, x_acons, x_tup, x_lst, x_lstM, x_call, x_callD, x_CB, x_M0, x_M, x_neg, x_isi, x_iL, x_iT, asL_lst, asT_tup, x_gN, x_gT2, x_lc, x_lcEnd, x_lcEndM, x_lc0, nox_ok, x_yes, k_ii, k_eqS, k_eqI, k_lenL, k_lenT, k_tupL, k_tupT, k_lstT, k_lstS, k_int, at_0, at_1, at_2, at_3, toR_some, k_ixT, k_ixL, k_isNN, k_isNT, isS_S, x_dput, Res.bind_ok, Res.bind_exc, Res.bind_bad, List.getElem?_cons_zero, List.getElem?_cons_succ, List.set_cons_zero, List.set_cons_succ, List.length_cons, List.length_nil, if_true, if_false, Bool.false_eq_true, Bool.not_true, Bool.not_false, cond_true, cond_false, small, Nat.reduceAdd, Nat.reduceLeDiff, decide_true, decide_false, reduceCtorEq, reduceIte, q1, q2, fits_ok hk hn (by omega) h1, e1, tag_at, brn_tag, stw_tag, hb, b1, p1, p2, len1, top_set, put_branch, put_behind, hr, g5, e3, e4, succI]
        rw [sz_in p, Nat.add_assoc]
      | true =>
        simp only [Pc.nx, hr, Bool.false_or, Bool.true_or] at e3 e4
        rw [hr] at p2 p3
        have g5 := g_behind hk2'
        simp only [hr] at g5
        simp only [b_checked, fin_rt, fin_nx, fin_exc, x_cons, thenS_nx, thenS_rt, thenS_ct, thenS_exc, x_nil, x_set, x_expr, x_ret, x_if, x_cont, x_asg, x_par, x_par3, x_for, x_loop0, outL_nx, outL_ct, outL_rt, x_raise, x_var, getV_some, x_c, x_e2, x_eT, asB_bl, x_and, x_or, x_not, x_vand, x_vor, x_vnot, x_ifE, x_chain, x_anil, x_acons, x_tup, x_lst, x_lstM, x_call, x_callD, x_CB, x_M0, x_M, x_neg, x_isi, x_iL, x_iT, asL_lst, asT_tup, x_gN, x_gT2, x_lc, x_lcEnd, x_lcEndM, x_lc0, nox_ok, x_yes, k_ii, k_eqS, k_eqI, k_lenL, k_lenT, k_tupL, k_tupT, k_lstT, k_lstS, k_int, at_0, at_1, at_2, at_3, toR_some, k_ixT, k_ixL, k_isNN, k_isNT, isS_S, x_dput, Res.bind_ok, Res.bind_exc, Res.bind_bad, List.getElem?_cons_zero, List.getElem?_cons_succ, List.set_cons_zero, List.set_cons_succ, List.length_cons, List.length_nil, if_true, if_false, Bool.false_eq_true, Bool.not_true, Bool.not_false, cond_true, cond_false, small, Nat.reduceAdd, Nat.reduceLeDiff, decide_true, decide_false, reduceCtorEq, reduceIte, q1, q2, fits_ok hk hn (by omega) h1, e1, tag_at, brn_tag, stw_tag, hb, b1, p1, p2, len1, top_set, put_branch, put_behind, hr, g5, e3, e4, succI]
        rw [sz_in p, Nat.add_assoc]
    | true =>
      rw [hb] at b1
      simp only [if_true] at b1
      simp only [Pc.nx, ← b1] at e3 e4 p2 p3 hk2'
      cases hr : r.bh with
      | false =>
        simp only [Pc.nx, hr, Bool.false_or, Bool.true_or] at e3 e4
        rw [hr] at p2 p3
        have g5 := g_behind hk2'
        simp only [hr] at g5
        simp only [b_checked, fin_rt, fin_nx, fin_exc, x_cons, thenS_nx, thenS_rt, thenS_ct, thenS_exc, x_nil, x_set, x_expr, x_ret, x_if, x_cont, x_asg, x_par, x_par3, x_for, x_loop0, outL_nx, outL_ct, outL_rt, x_raise, x_var, getV_some, x_c, x_e2, x_eT, asB_bl, x_and, x_or, x_not, x_vand, x_vor, x_vnot, x_ifE, x_chain, x_anil, x_acons, x_tup, x_lst, x_lstM, x_call, x_callD, x_CB, x_M0, x_M, x_neg, x_isi, x_iL, x_iT, asL_lst, asT_tup, x_gN, x_gT2, x_lc, x_lcEnd, x_lcEndM, x_lc0, nox_ok, x_yes, k_ii, k_eqS, k_eqI, k_lenL, k_lenT, k_tupL, k_tupT, k_lstT, k_lstS, k_int, at_0, at_1, at_2, at_3, toR_some, k_ixT, k_ixL, k_isNN, k_isNT, isS_S, x_dput, Res.bind_ok, Res.bind_exc, Res.bind_bad, List.getElem?_cons_zero, List.getElem?_cons_succ, List.set_cons_zero, List.set_cons_succ, List.length_cons, List.length_nil, if_true, if_false, Bool.false_eq_true, Bool.not_true, Bool.not_false, cond_true, cond_false, small, Nat.reduceAdd, Nat.reduceLeDiff, decide_true, decide_false, reduceCtorEq, reduceIte, q1, q2, fits_ok hk hn (by omega) h1, e1, tag_at, brn_tag, stw_tag, hb, p1, p2, len1, top_set, put_branch, put_behind, hr, g5, e3, e4, succI]
        rw [sz_in p, Nat.add_assoc]
      | true =>
        simp only [Pc.nx, hr, Bool.false_or, Bool.true_or] at e3 e4
        rw [hr] at p2 p3
        have g5 := g_behind hk2'
        simp only [hr] at g5
        simp only [b_checked, fin_rt, fin_nx, fin_exc, x_cons, thenS_nx, thenS_rt, thenS_ct, thenS_exc, x_nil, x_set, x_expr, x_ret, x_if, x_cont, x_asg, x_par, x_par3, x_for, x_loop0, outL_nx, outL_ct, outL_rt, x_raise, x_var, getV_some, x_c, x_e2, x_eT, asB_bl, x_and, x_or, x_not, x_vand, x_vor, x_vnot, x_ifE, x_chain, x_anil, x_acons, x_tup, x_lst, x_lstM, x_call, x_callD, x_CB, x_M0, x_M, x_neg, x_isi, x_iL, x_iT, asL_lst, asT_tup, x_gN, x_gT2, x_lc, x_lcEnd, x_lcEndM, x_lc0, nox_ok, x_yes, k_ii, k_eqS, k_eqI, k_lenL, k_lenT, k_tupL, k_tupT, k_lstT, k_lstS, k_int, at_0, at_1, at_2, at_3, toR_some, k_ixT, k_ixL, k_isNN, k_isNT, isS_S, x_dput, Res.bind_ok, Res.bind_exc, Res.bind_bad, List.getElem?_cons_zero, List.getElem?_cons_succ, List.set_cons_zero, List.set_cons_succ, List.length_cons, List.length_nil, if_true, if_false, Bool.false_eq_true, Bool.not_true, Bool.not_false, cond_true, cond_false, small, Nat.reduceAdd, Nat.reduceLeDiff, decide_true, decide_false, reduceCtorEq, reduceIte, q1, q2, fits_ok hk hn (by omega) h1, e1, tag_at, brn_tag, stw_tag, hb, p1, p2, len1, top_set, put_branch, put_behind, hr, g5, e3, e4, succI]
        rw [sz_in p, Nat.add_assoc]
end K85
end
section
set_option Elab.async false
set_option linter.all false
set_option maxRecDepth 100000
set_option maxHeartbeats 1000000
/-! M14: names that are free. -/
namespace K85
open PySem Vl
mutual
def Pc.fv : Pc → Nat → Prop
  | .sum _ l, k => Pc.fvl l k
  | .wait p, k => p.fv k
  | .nw x p, k => k ≠ x ∧ p.fv k
  | .call _ ns, k => k ∈ ns
  | .pre .take x y p, k => k = x ∨ (k ≠ y ∧ p.fv k)
  | .pre _ x y p, k => k = x ∨ k = y ∨ p.fv k
def Pc.fvl : List Pc → Nat → Prop
  | [], _ => False
  | p :: l, k => p.fv k ∨ Pc.fvl l k
end
theorem asc_len : ∀ (l : List Int) (a : Int) (n : Nat), l.Pairwise (· < ·) → (∀ x ∈ l, a ≤ x ∧ x < a + n) → l.length ≤ n
  | [], _, _, _, _ => Nat.zero_le _
  | x :: l, a, n, h, hb => by
    obtain ⟨h1, h2⟩ := List.pairwise_cons.mp h
    have hx := hb x (List.mem_cons_self ..)
    cases n with
    | zero => omega
    | succ n =>
      have := asc_len l (a + 1) n h2 fun y hy => by
        have := h1 y hy
        have := hb y (List.mem_cons_of_mem _ hy)
        omega
      simp only [List.length_cons]
      omega
theorem intsOf_nat : ∀ ms : List Nat, intsOf (ms.map nat) = some (ms.map fun n : Nat => (n : Int))
  | [] => rfl
  | m :: ms => by
    rw [List.map_cons]
    unfold intsOf
    rw [intsOf_nat ms]
    rfl
theorem sort_ok {f : EvE} {e : Env'} {st : Store} {ms : List Nat} (h : f e st = .ok (.lst (ms.map nat)) st) (hm : ∀ m ∈ ms, m < 10) (hl : ms.length ≤ 1000) : ∃ ns : List Nat, (∀ k ∈ ns, k ∈ ms) ∧ ns.length ≤ 10 ∧ eSortSet f e st = .ok (.lst (ns.map nat)) st := by
  have hb : ∀ x ∈ sortI (ms.map fun n : Nat => (n : Int)), ∃ m ∈ ms, x = (m : Int) := fun x hx => by
    obtain ⟨m, h1, h2⟩ := List.mem_map.mp (mem_sortI.mp hx)
    exact ⟨m, h1, h2.symm⟩
  have hlen : (sortI (ms.map fun n : Nat => (n : Int))).length ≤ 10 := asc_len _ 0 10 asc_sortI fun x hx => by
    obtain ⟨m, h1, rfl⟩ := hb x hx
    have := hm m h1
    omega
  refine ⟨(sortI (ms.map fun n : Nat => (n : Int))).map Int.toNat, fun k hk => ?_, by simpa using hlen, ?_⟩
  · obtain ⟨x, h1, rfl⟩ := List.mem_map.mp hk
    obtain ⟨m, h2, rfl⟩ := hb x h1
    exact h2
  · have e1 : lstOf st (.lst (ms.map nat)) = some (ms.map nat) := rfl
    unfold eSortSet
    rw [h]
    simp only [Res.bind_ok, e1, intsOf_nat]
    rw [if_pos ⟨by simpa using hl, by omega⟩]
    congr 2
    rw [List.map_map]
    refine List.map_congr_left fun x hx => ?_
    obtain ⟨m, _, rfl⟩ := hb x hx
    rfl
theorem lc_natf (e : Env') (i : Nat) (t : EvT) (fa : EvE) (st : Store) (c : Nat → Bool) : ∀ (l : List Nat) (acc : List W), (∀ x ∈ l, t (e.set i (some (nat x))) st = .ok (c x) st ∧ fa (e.set i (some (nat x))) st = .ok (nat x) st) → acc.length + l.length ≤ 900000 →
    lcLoop (gN i) t fa (l.map nat) acc e st = .ok (acc ++ (l.filter c).map nat) st
  | [], acc, _, _ => by simp [x_lc0]
  | x :: l, acc, h, hl => by
    obtain ⟨h1, h2⟩ := h x (List.mem_cons_self ..)
    simp only [List.length_cons] at hl
    have ih := fun acc' (hq : acc'.length + l.length ≤ 900000) => lc_natf e i t fa st c l acc' (fun y hy => h y (List.mem_cons_of_mem _ hy)) hq
    have sm : small (nat x :: acc) = true := small_len (by simp; omega)
    rw [List.map_cons, x_lcS]
    simp only [x_gN, nox_ok, Res.bind_ok, h1, List.filter_cons]
    cases hc : c x with
    | true => simp only [if_true, h2, nox_ok, Res.bind_ok, sm]; rw [ih _ (by simp; omega)]; simp
    | false => simp only [Bool.false_eq_true, if_false]; exact ih acc (by omega)
theorem shaped_int (i : Int) : SeqAt.shaped (.int i) = true := by simp [SeqAt.shaped, PyData.canLay0, PyData.depth]
theorem eqv_int (i j : Int) : PyData.eqv (.int i) (.int j) = decide (i = j) := by
  unfold PyData.eqv
  by_cases h : i = j
  · subst h; simp
  · rw [decide_eq_false h]; simp; exact h
theorem k_neI {i j : Int} {st : Store} : kEqD true (.int i) (.int j) st = .ok (.bl (!decide (i = j))) st := by
  have e1 : ∀ i, datS st (.int i) = some (.int i) := fun _ => rfl
  unfold kEqD
  rw [e1, e1]
  simp only [shaped_int, Bool.and_self, if_true, cond_true, eqv_int]
theorem k_ninI {i j : Int} {st : Store} : kInT true (.int i) (.tup [.int j]) st = .ok (.bl (!decide (j = i))) st := by
  have e1 : dat (.int i) = some (.int i) := rfl
  have e2 : dat (.tup [.int j]) = some (.tuple [.int j]) := rfl
  have s2 : SeqAt.shaped (.tuple [.int j]) = true := by simp [SeqAt.shaped, PyData.canLay0, PyData.canLayAll0, PyData.depth, PyData.depthAll]
  unfold kInT
  rw [e1, e2]
  simp only [shaped_int, s2, Bool.and_self, if_true, cond_true, List.any_cons, List.any_nil, Bool.or_false, eqv_int]
theorem free_loop {F : List W → Store → Res W} {st : Store} {a b : W} {x5 x6 : Option W} (P : Nat → Prop) : ∀ (L : List (List W × Pc)) (ms : List Nat) (x y : Option W), (∀ m ∈ ms, P m ∧ m < 10) → ms.length + 10 * L.length ≤ 1000 →
    (∀ q ∈ L, ∃ ns : List Nat, (∀ k ∈ ns, P k ∧ k < 10) ∧ ns.length ≤ 10 ∧ F [q.2.w] st = .ok (.tup (ns.map nat)) st) →
    ∃ (ms' : List Nat) (x' y' : Option W), (∀ m ∈ ms', P m ∧ m < 10) ∧ ms'.length ≤ ms.length + 10 * L.length ∧ sLoop (gT 2 (gsCons (gN 3) (gsCons (gN 4) gsNil))) (sSet 2 (e2 kCat (eVar 2) (eCB kList (aCons (eCall 1 F (aCons (eVar 4) aNil)) aNil)))) (L.map inW) [some a, some b, some (.lst (ms.map nat)), x, y, x5, x6] st
      = .ok (.nx [some a, some b, some (.lst (ms'.map nat)), x', y', x5, x6]) st
  | [], ms, x, y, h, _, _ => ⟨ms, x, y, h, by simp, by simp [x_loop0]⟩
  | q :: L, ms, x, y, h, hl, hq => by
    obtain ⟨ns, n1, n2, n3⟩ := hq q (List.mem_cons_self ..)
    simp only [List.length_cons] at hl
    obtain ⟨ms', x', y', g1, g2, g3⟩ := free_loop P L (ms ++ ns) (some (.tup q.1)) (some q.2.w) (fun m hm => (List.mem_append.mp hm).elim (h m) (n1 m)) (by simp; omega) fun z hz => hq z (List.mem_cons_of_mem _ hz)
    refine ⟨ms', x', y', g1, by simp at g2 ⊢; omega, ?_⟩
    have e1 : kCat (.lst (ms.map nat)) (.lst (ns.map nat)) st = .ok (.lst ((ms ++ ns).map nat)) st := by rw [k_cat (small_len (by simp; omega)), List.map_append]
    rw [List.map_cons, x_loop]
    simp only [inW, fin_rt, fin_nx, fin_exc, x_cons, thenS_nx, thenS_rt, thenS_ct, thenS_exc, x_nil, x_set, x_expr, x_ret, x_if, x_cont, x_asg, x_par, x_par3, x_for, x_loop0, outL_nx, outL_ct, outL_rt, x_raise, x_var, getV_some, x_c, x_e2, x_eT, asB_bl, x_and, x_or, x_not, x_vand, x_vor, x_vnot, x_ifE, x_chain, x_anil, x_acons, x_tup, x_lst, x_lstM, x_call, x_callD, x_CB, x_M0, x_M, x_neg, x_isi, x_iL, x_iT, asL_lst, asT_tup, x_gN, x_gT2, x_lc, x_lcEnd, x_lcEndM, x_lc0, nox_ok, x_yes, k_ii, k_eqS, k_eqI, k_lenL, k_lenT, k_tupL, k_tupT, k_lstT, k_lstS, k_int, at_0, at_1, at_2, at_3, toR_some, k_ixT, k_ixL, k_isNN, k_isNT, isS_S, x_dput, Res.bind_ok, Res.bind_exc, Res.bind_bad, List.getElem?_cons_zero, List.getElem?_cons_succ, List.set_cons_zero, List.set_cons_succ, List.length_cons, List.length_nil, if_true, if_false, Bool.false_eq_true, Bool.not_true, Bool.not_false, cond_true, cond_false, small, Nat.reduceAdd, Nat.reduceLeDiff, decide_true, decide_false, reduceCtorEq, reduceIte, n3, e1]
    exact g3
theorem fvl_of {p : Pc} {k : Nat} : ∀ {l : List Pc}, p ∈ l → p.fv k → Pc.fvl l k
  | q :: l, h, hk => by
    rcases List.mem_cons.mp h with rfl | h
    · exact .inl hk
    · exact .inr (fvl_of h hk)
/-- sums not too wide -/
def Pc.wd : Pc → Prop := fun p => p.inP.length ≤ 20
theorem free_ok : ∀ (n : Nat) (p : Pc) (r : Rl) (st : Store), p.d < n → p.nm → p.chk r → ∃ ns : List Nat, (∀ k ∈ ns, p.fv k ∧ k < 10) ∧ ns.length ≤ 10 ∧ f_free_in n [p.w] st = .ok (.tup (ns.map nat)) st
  | 0, _, _, _, h, _, _ => absurd h (Nat.not_lt_zero _)
  | n + 1, p, r, st, hdn, hn, hc => by
    obtain ⟨h1, h2⟩ := in_facts hn hc
    rw [u_free_in]
    have ihq : ∀ q ∈ p.inP, ∃ ns : List Nat, (∀ k ∈ ns, q.2.fv k ∧ k < 10) ∧ ns.length ≤ 10 ∧ f_free_in n [q.2.w] st = .ok (.tup (ns.map nat)) st := fun q hq => by
      obtain ⟨_, z2, z3, z4⟩ := h2 q hq
      exact free_ok n q.2 (p.nx r) st (by omega) z2 z3
    cases p with
    | sum b l =>
      have hil : (Pc.sum b l).inP.length ≤ 20 := by
        have : ∀ (l : List Pc) (k : Nat), (inL l k).length = l.length := by
          intro l
          induction l with
          | nil => intro k; rfl
          | cons p l ih => intro k; simp [inL, ih]
        have h3 : l.length ≤ cond b 20 4 := h1.1
        simp only [Pc.inP, this]
        cases b <;> simp only [cond_true, cond_false] at h3 <;> omega
      obtain ⟨ms, x', y', g1, g2, g3⟩ := free_loop (F := f_free_in n) (st := st) (a := (Pc.sum b l).w) (b := .str (Pc.sum b l).tag) (x5 := none) (x6 := none) (fun k => Pc.fvl l k) (Pc.sum b l).inP [] none none (by simp) (by simp; omega) fun q hq => by
        obtain ⟨ns, z1, z2, z3⟩ := ihq q hq
        exact ⟨ns, fun k hk => ⟨fvl_of (in_inL hq).1 (z1 k hk).1, (z1 k hk).2⟩, z2, z3⟩
      obtain ⟨ns, s1, s2, s3⟩ := sort_ok (f := eVar 2) (e := [some (Pc.sum b l).w, some (.str (Pc.sum b l).tag), some (.lst (ms.map nat)), x', y', none, none]) (st := st) (ms := ms) rfl (fun m hm => (g1 m hm).2) (by simp at g2; omega)
      refine ⟨ns, fun k hk => g1 k (s1 k hk), s2, ?_⟩
      have d1 : decide ((Pc.sum b l).tag = "call") = false := call_tag _
      have d2 : decide ((Pc.sum b l).tag = "new") = false := (by decide +kernel : ∀ b : Bool, decide ((cond b "one" "beside" : Str) = "new") = false) b
      have i1 : kInT false (.str (Pc.sum b l).tag) (.tup [.str "take", .str "takes"]) st = .ok (.bl false) st := in_ (l := ["take", "takes"]) ((by decide +kernel : ∀ b : Bool, chk false (cond b "one" "beside") ["take", "takes"] false = true) b)
      have d3 : decide ((Pc.sum b l).tag = "sends") = false := (by decide +kernel : ∀ b : Bool, decide ((cond b "one" "beside" : Str) = "sends") = false) b
      have i2 : kInT false (.str (Pc.sum b l).tag) (.tup [.str "send", .str "alike", .str "unlike"]) st = .ok (.bl false) st := in_ (l := ["send", "alike", "unlike"]) ((by decide +kernel : ∀ b : Bool, chk false (cond b "one" "beside") ["send", "alike", "unlike"] false = true) b)
      have e4 := inside_ok (p := .sum b l) (st := st) (by omega)
      simp only [List.map_nil] at g3
      simp only [b_free_in, fin_rt, fin_nx, fin_exc, x_cons, thenS_nx, thenS_rt, thenS_ct, thenS_exc, x_nil, x_set, x_expr, x_ret, x_if, x_cont, x_asg, x_par, x_par3, x_for, x_loop0, outL_nx, outL_ct, outL_rt, x_raise, x_var, getV_some, x_c, x_e2, x_eT, asB_bl, x_and, x_or, x_not, x_vand, x_vor, x_vnot, x_ifE, x_chain, x_anil, x_acons, x_tup, x_lst, x_lstM, x_call, x_callD, x_CB, x_M0, x_M, x_neg, x_isi, x_iL, x_iT, asL_lst, asT_tup, x_gN, x_gT2, x_lc, x_lcEnd, x_lcEndM, x_lc0, nox_ok, x_yes, k_ii, k_eqS, k_eqI, k_lenL, k_lenT, k_tupL, k_tupT, k_lstT, k_lstS, k_int, at_0, at_1, at_2, at_3, toR_some, k_ixT, k_ixL, k_isNN, k_isNT, isS_S, x_dput, Res.bind_ok, Res.bind_exc, Res.bind_bad, List.getElem?_cons_zero, List.getElem?_cons_succ, List.set_cons_zero, List.set_cons_succ, List.length_cons, List.length_nil, if_true, if_false, Bool.false_eq_true, Bool.not_true, Bool.not_false, cond_true, cond_false, small, Nat.reduceAdd, Nat.reduceLeDiff, decide_true, decide_false, reduceCtorEq, reduceIte, tag_at, d1, d2, d3, i1, i2, e4, g3, s3]
    | wait p =>
      obtain ⟨ms, x', y', g1, g2, g3⟩ := free_loop (F := f_free_in n) (st := st) (a := (Pc.wait p).w) (b := .str "wait") (x5 := none) (x6 := none) (fun k => p.fv k) (Pc.wait p).inP [] none none (by simp) (by simp [Pc.inP]) fun q hq => by
        have := ihq q hq
        rw [List.mem_singleton.mp hq] at this ⊢
        exact this
      obtain ⟨ns, s1, s2, s3⟩ := sort_ok (f := eVar 2) (e := [some (Pc.wait p).w, some (.str "wait"), some (.lst (ms.map nat)), x', y', none, none]) (st := st) (ms := ms) rfl (fun m hm => (g1 m hm).2) (by simp [Pc.inP] at g2; omega)
      refine ⟨ns, fun k hk => g1 k (s1 k hk), s2, ?_⟩
      have d1 : decide (("wait" : Str) = "call") = false := by decide +kernel
      have d2 : decide (("wait" : Str) = "new") = false := by decide +kernel
      have i1 : kInT false (.str "wait") (.tup [.str "take", .str "takes"]) st = .ok (.bl false) st := in_ (l := ["take", "takes"]) (by decide +kernel)
      have d3 : decide (("wait" : Str) = "sends") = false := by decide +kernel
      have i2 : kInT false (.str "wait") (.tup [.str "send", .str "alike", .str "unlike"]) st = .ok (.bl false) st := in_ (l := ["send", "alike", "unlike"]) (by decide +kernel)
      have e4 := inside_ok (p := .wait p) (st := st) (by simp [Pc.inP])
      simp only [List.map_nil] at g3
      simp only [b_free_in, fin_rt, fin_nx, fin_exc, x_cons, thenS_nx, thenS_rt, thenS_ct, thenS_exc, x_nil, x_set, x_expr, x_ret, x_if, x_cont, x_asg, x_par, x_par3, x_for, x_loop0, outL_nx, outL_ct, outL_rt, x_raise, x_var, getV_some, x_c, x_e2, x_eT, asB_bl, x_and, x_or, x_not, x_vand, x_vor, x_vnot, x_ifE, x_chain, x_anil, x_acons, x_tup, x_lst, x_lstM, x_call, x_callD, x_CB, x_M0, x_M, x_neg, x_isi, x_iL, x_iT, asL_lst, asT_tup, x_gN, x_gT2, x_lc, x_lcEnd, x_lcEndM, x_lc0, nox_ok, x_yes, k_ii, k_eqS, k_eqI, k_lenL, k_lenT, k_tupL, k_tupT, k_lstT, k_lstS, k_int, at_0, at_1, at_2, at_3, toR_some, k_ixT, k_ixL, k_isNN, k_isNT, isS_S, x_dput, Res.bind_ok, Res.bind_exc, Res.bind_bad, List.getElem?_cons_zero, List.getElem?_cons_succ, List.set_cons_zero, List.set_cons_succ, List.length_cons, List.length_nil, if_true, if_false, Bool.false_eq_true, Bool.not_true, Bool.not_false, cond_true, cond_false, small, Nat.reduceAdd, Nat.reduceLeDiff, decide_true, decide_false, reduceCtorEq, reduceIte, tag_at, Pc.tag, d1, d2, d3, i1, i2, e4, g3, s3]
    | nw u p =>
      obtain ⟨ms, x', y', g1, g2, g3⟩ := free_loop (F := f_free_in n) (st := st) (a := (Pc.nw u p).w) (b := .str "new") (x5 := none) (x6 := none) (fun k => p.fv k) (Pc.nw u p).inP [] none none (by simp) (by simp [Pc.inP]) fun q hq => by
        have := ihq q hq
        rw [List.mem_singleton.mp hq] at this ⊢
        exact this
      have hf := lc_natf [some (Pc.nw u p).w, some (.str "new"), some (.lst (ms.map nat)), x', y', none, none] 6 (eT (e2 (kEqD true) (eVar 6) (e2 kIxT (eVar 0) (eC (.int 1))))) (eVar 6) st (fun k : Nat => !decide ((k : Int) = (u : Int))) ms [] (fun x _ => by
        simp only [Pc.w, nat, fin_rt, fin_nx, fin_exc, x_cons, thenS_nx, thenS_rt, thenS_ct, thenS_exc, x_nil, x_set, x_expr, x_ret, x_if, x_cont, x_asg, x_par, x_par3, x_for, x_loop0, outL_nx, outL_ct, outL_rt, x_raise, x_var, getV_some, x_c, x_e2, x_eT, asB_bl, x_and, x_or, x_not, x_vand, x_vor, x_vnot, x_ifE, x_chain, x_anil, x_acons, x_tup, x_lst, x_lstM, x_call, x_callD, x_CB, x_M0, x_M, x_neg, x_isi, x_iL, x_iT, asL_lst, asT_tup, x_gN, x_gT2, x_lc, x_lcEnd, x_lcEndM, x_lc0, nox_ok, x_yes, k_ii, k_eqS, k_eqI, k_lenL, k_lenT, k_tupL, k_tupT, k_lstT, k_lstS, k_int, at_0, at_1, at_2, at_3, toR_some, k_ixT, k_ixL, k_isNN, k_isNT, isS_S, x_dput, Res.bind_ok, Res.bind_exc, Res.bind_bad, List.getElem?_cons_zero, List.getElem?_cons_succ, List.set_cons_zero, List.set_cons_succ, List.length_cons, List.length_nil, if_true, if_false, Bool.false_eq_true, Bool.not_true, Bool.not_false, cond_true, cond_false, small, Nat.reduceAdd, Nat.reduceLeDiff, decide_true, decide_false, reduceCtorEq, reduceIte, k_neI, and_self]) (by simp [Pc.inP] at g2; simp; omega)
      rw [List.nil_append] at hf
      obtain ⟨ns, s1, s2, s3⟩ := sort_ok (f := eVar 2) (e := [some (Pc.nw u p).w, some (.str "new"), some (.lst ((ms.filter fun k : Nat => !decide ((k : Int) = (u : Int))).map nat)), x', y', none, none]) (st := st) (ms := ms.filter fun k : Nat => !decide ((k : Int) = (u : Int))) rfl (fun m hm => (g1 m (List.mem_filter.mp hm).1).2) (by
        have := List.length_filter_le (fun k : Nat => !decide ((k : Int) = (u : Int))) ms
        simp [Pc.inP] at g2; omega)
      refine ⟨ns, fun k hk => ?_, s2, ?_⟩
      · have hk := List.mem_filter.mp (s1 k hk)
        refine ⟨⟨fun e => ?_, (g1 k hk.1).1⟩, (g1 k hk.1).2⟩
        subst e
        simp at hk
      · have d1 : decide (("new" : Str) = "call") = false := by decide +kernel
        have d2 : decide (("new" : Str) = "new") = true := by decide +kernel
        have e4 := inside_ok (p := .nw u p) (st := st) (by simp [Pc.inP])
        simp only [List.map_nil] at g3
        simp only [b_free_in, fin_rt, fin_nx, fin_exc, x_cons, thenS_nx, thenS_rt, thenS_ct, thenS_exc, x_nil, x_set, x_expr, x_ret, x_if, x_cont, x_asg, x_par, x_par3, x_for, x_loop0, outL_nx, outL_ct, outL_rt, x_raise, x_var, getV_some, x_c, x_e2, x_eT, asB_bl, x_and, x_or, x_not, x_vand, x_vor, x_vnot, x_ifE, x_chain, x_anil, x_acons, x_tup, x_lst, x_lstM, x_call, x_callD, x_CB, x_M0, x_M, x_neg, x_isi, x_iL, x_iT, asL_lst, asT_tup, x_gN, x_gT2, x_lc, x_lcEnd, x_lcEndM, x_lc0, nox_ok, x_yes, k_ii, k_eqS, k_eqI, k_lenL, k_lenT, k_tupL, k_tupT, k_lstT, k_lstS, k_int, at_0, at_1, at_2, at_3, toR_some, k_ixT, k_ixL, k_isNN, k_isNT, isS_S, x_dput, Res.bind_ok, Res.bind_exc, Res.bind_bad, List.getElem?_cons_zero, List.getElem?_cons_succ, List.set_cons_zero, List.set_cons_succ, List.length_cons, List.length_nil, if_true, if_false, Bool.false_eq_true, Bool.not_true, Bool.not_false, cond_true, cond_false, small, Nat.reduceAdd, Nat.reduceLeDiff, decide_true, decide_false, reduceCtorEq, reduceIte, tag_at, Pc.tag, d1, d2, e4, g3, hf, s3]
    | call c ms =>
      obtain ⟨ns, s1, s2, s3⟩ := sort_ok (f := eCB kList (aCons (e2 kIxT (eVar 0) (eC (.int 2))) aNil)) (e := [some (Pc.call c ms).w, some (.str "call"), none, none, none, none, none]) (st := st) (ms := ms) rfl hn.2 (by have : ms.length ≤ 4 := h1.1.2; omega)
      refine ⟨ns, fun k hk => ⟨s1 k hk, hn.2 k (s1 k hk)⟩, s2, ?_⟩
      have d1 : decide (("call" : Str) = "call") = true := by decide +kernel
      simp only [b_free_in, fin_rt, fin_nx, fin_exc, x_cons, thenS_nx, thenS_rt, thenS_ct, thenS_exc, x_nil, x_set, x_expr, x_ret, x_if, x_cont, x_asg, x_par, x_par3, x_for, x_loop0, outL_nx, outL_ct, outL_rt, x_raise, x_var, getV_some, x_c, x_e2, x_eT, asB_bl, x_and, x_or, x_not, x_vand, x_vor, x_vnot, x_ifE, x_chain, x_anil, x_acons, x_tup, x_lst, x_lstM, x_call, x_callD, x_CB, x_M0, x_M, x_neg, x_isi, x_iL, x_iT, asL_lst, asT_tup, x_gN, x_gT2, x_lc, x_lcEnd, x_lcEndM, x_lc0, nox_ok, x_yes, k_ii, k_eqS, k_eqI, k_lenL, k_lenT, k_tupL, k_tupT, k_lstT, k_lstS, k_int, at_0, at_1, at_2, at_3, toR_some, k_ixT, k_ixL, k_isNN, k_isNT, isS_S, x_dput, Res.bind_ok, Res.bind_exc, Res.bind_bad, List.getElem?_cons_zero, List.getElem?_cons_succ, List.set_cons_zero, List.set_cons_succ, List.length_cons, List.length_nil, if_true, if_false, Bool.false_eq_true, Bool.not_true, Bool.not_false, cond_true, cond_false, small, Nat.reduceAdd, Nat.reduceLeDiff, decide_true, decide_false, reduceCtorEq, reduceIte, tag_at, Pc.tag, d1, s3]
    | pre hd u v p =>
      obtain ⟨ms, x', y', g1, g2, g3⟩ := free_loop (F := f_free_in n) (st := st) (a := (Pc.pre hd u v p).w) (b := .str hd.w) (x5 := none) (x6 := none) (fun k => p.fv k) (Pc.pre hd u v p).inP [] none none (by simp) (by simp [Pc.inP]) fun q hq => by
        have := ihq q hq
        rw [List.mem_singleton.mp hq] at this ⊢
        exact this
      have d1 : decide (hd.w = "call") = false := by cases hd <;> decide +kernel
      have d2 : decide (hd.w = "new") = false := by cases hd <;> decide +kernel
      have e4 := inside_ok (p := .pre hd u v p) (st := st) (by simp [Pc.inP])
      have gl : ms.length ≤ 10 := by simpa [Pc.inP] using g2
      simp only [List.map_nil] at g3
      obtain ⟨hu, hv, hn'⟩ := hn
      by_cases ht : hd = .take
      · subst ht
        have hf := lc_natf [some (Pc.pre .take u v p).w, some (.str "take"), some (.lst (ms.map nat)), x', y', some (.tup [nat v]), none] 6 (eT (e2 (kInT true) (eVar 6) (eVar 5))) (eVar 6) st (fun k : Nat => !decide ((v : Int) = (k : Int))) ms [] (fun x _ => by
          simp only [nat, fin_rt, fin_nx, fin_exc, x_cons, thenS_nx, thenS_rt, thenS_ct, thenS_exc, x_nil, x_set, x_expr, x_ret, x_if, x_cont, x_asg, x_par, x_par3, x_for, x_loop0, outL_nx, outL_ct, outL_rt, x_raise, x_var, getV_some, x_c, x_e2, x_eT, asB_bl, x_and, x_or, x_not, x_vand, x_vor, x_vnot, x_ifE, x_chain, x_anil, x_acons, x_tup, x_lst, x_lstM, x_call, x_callD, x_CB, x_M0, x_M, x_neg, x_isi, x_iL, x_iT, asL_lst, asT_tup, x_gN, x_gT2, x_lc, x_lcEnd, x_lcEndM, x_lc0, nox_ok, x_yes, k_ii, k_eqS, k_eqI, k_lenL, k_lenT, k_tupL, k_tupT, k_lstT, k_lstS, k_int, at_0, at_1, at_2, at_3, toR_some, k_ixT, k_ixL, k_isNN, k_isNT, isS_S, x_dput, Res.bind_ok, Res.bind_exc, Res.bind_bad, List.getElem?_cons_zero, List.getElem?_cons_succ, List.set_cons_zero, List.set_cons_succ, List.length_cons, List.length_nil, if_true, if_false, Bool.false_eq_true, Bool.not_true, Bool.not_false, cond_true, cond_false, small, Nat.reduceAdd, Nat.reduceLeDiff, decide_true, decide_false, reduceCtorEq, reduceIte, k_ninI, and_self]) (by simp; omega)
        rw [List.nil_append] at hf
        have fl := List.length_filter_le (fun k : Nat => !decide ((v : Int) = (k : Int))) ms
        obtain ⟨ns, s1, s2, s3⟩ := sort_ok (f := eVar 2) (e := [some (Pc.pre .take u v p).w, some (.str "take"), some (.lst ((u :: ms.filter fun k : Nat => !decide ((v : Int) = (k : Int))).map nat)), x', y', some (.tup [nat v]), none]) (st := st) (ms := u :: ms.filter fun k : Nat => !decide ((v : Int) = (k : Int))) rfl (fun m hm => by
          rcases List.mem_cons.mp hm with rfl | hm
          · exact hu
          · exact (g1 m (List.mem_filter.mp hm).1).2) (by simp only [List.length_cons]; omega)
        refine ⟨ns, fun k hk => ?_, s2, ?_⟩
        · rcases List.mem_cons.mp (s1 k hk) with rfl | hk
          · exact ⟨.inl rfl, hu⟩
          · have hk := List.mem_filter.mp hk
            refine ⟨.inr ⟨fun e => ?_, (g1 k hk.1).1⟩, (g1 k hk.1).2⟩
            subst e
            simp at hk
        · have i1 : kInT false (.str "take") (.tup [.str "take", .str "takes"]) st = .ok (.bl true) st := in_ (l := ["take", "takes"]) (by decide +kernel)
          have d3 : decide (("take" : Str) = "take") = true := by decide +kernel
          have e5 : kCat (.lst [nat u]) (.lst ((ms.filter fun k : Nat => !decide ((v : Int) = (k : Int))).map nat)) st = .ok (.lst ((u :: ms.filter fun k : Nat => !decide ((v : Int) = (k : Int))).map nat)) st := by
            rw [k_cat (small_len (by simp; omega))]
            rfl
          have d1' : decide (("take" : Str) = "call") = false := by decide +kernel
          have d2' : decide (("take" : Str) = "new") = false := by decide +kernel
          have w1 : kIxT (Pc.pre .take u v p).w (.int 1) st = .ok (nat u) st := rfl
          have w2 : kIxT (Pc.pre .take u v p).w (.int 2) st = .ok (nat v) st := rfl
          simp only [Hd.w] at g3
          simp only [b_free_in, fin_rt, fin_nx, fin_exc, x_cons, thenS_nx, thenS_rt, thenS_ct, thenS_exc, x_nil, x_set, x_expr, x_ret, x_if, x_cont, x_asg, x_par, x_par3, x_for, x_loop0, outL_nx, outL_ct, outL_rt, x_raise, x_var, getV_some, x_c, x_e2, x_eT, asB_bl, x_and, x_or, x_not, x_vand, x_vor, x_vnot, x_ifE, x_chain, x_anil, x_acons, x_tup, x_lst, x_lstM, x_call, x_callD, x_CB, x_M0, x_M, x_neg, x_isi, x_iL, x_iT, asL_lst, asT_tup, x_gN, x_gT2, x_lc, x_lcEnd, x_lcEndM, x_lc0, nox_ok, x_yes, k_ii, k_eqS, k_eqI, k_lenL, k_lenT, k_tupL, k_tupT, k_lstT, k_lstS, k_int, at_0, at_1, at_2, at_3, toR_some, k_ixT, k_ixL, k_isNN, k_isNT, isS_S, x_dput, Res.bind_ok, Res.bind_exc, Res.bind_bad, List.getElem?_cons_zero, List.getElem?_cons_succ, List.set_cons_zero, List.set_cons_succ, List.length_cons, List.length_nil, if_true, if_false, Bool.false_eq_true, Bool.not_true, Bool.not_false, cond_true, cond_false, small, Nat.reduceAdd, Nat.reduceLeDiff, decide_true, decide_false, reduceCtorEq, reduceIte, tag_at, Pc.tag, Hd.w, d1', d2', d3, i1, e4, g3, w1, w2, hf, e5, s3]
      · obtain ⟨ns, s1, s2, s3⟩ := sort_ok (f := eVar 2) (e := [some (Pc.pre hd u v p).w, some (.str hd.w), some (.lst ((u :: v :: ms).map nat)), x', y', none, none]) (st := st) (ms := u :: v :: ms) rfl (fun m hm => by
          rcases List.mem_cons.mp hm with rfl | hm
          · exact hu
          · rcases List.mem_cons.mp hm with rfl | hm
            · exact hv
            · exact (g1 m hm).2) (by simp only [List.length_cons]; omega)
        refine ⟨ns, fun k hk => ?_, s2, ?_⟩
        · have : k = u ∨ k = v ∨ p.fv k := by
            rcases List.mem_cons.mp (s1 k hk) with rfl | hk
            · exact .inl rfl
            · rcases List.mem_cons.mp hk with rfl | hk
              · exact .inr (.inl rfl)
              · exact .inr (.inr (g1 k hk).1)
          refine ⟨by cases hd <;> first | exact this | exact absurd rfl ht, ?_⟩
          rcases List.mem_cons.mp (s1 k hk) with rfl | hk
          · exact hu
          · rcases List.mem_cons.mp hk with rfl | hk
            · exact hv
            · exact (g1 k hk).2
        · have i1 : kInT false (.str hd.w) (.tup [.str "take", .str "takes"]) st = .ok (.bl false) st := in_ (l := ["take", "takes"]) (by cases hd <;> first | decide +kernel | exact absurd rfl ht)
          have d3 : decide (hd.w = "sends") = false := by cases hd <;> decide +kernel
          have i2 : kInT false (.str hd.w) (.tup [.str "send", .str "alike", .str "unlike"]) st = .ok (.bl true) st := in_ (l := ["send", "alike", "unlike"]) (by cases hd <;> first | decide +kernel | exact absurd rfl ht)
          have e5 : kCat (.lst [nat u, nat v]) (.lst (ms.map nat)) st = .ok (.lst ((u :: v :: ms).map nat)) st := by
            rw [k_cat (small_len (by simp; omega))]
            rfl
          have w1 : kIxT (Pc.pre hd u v p).w (.int 1) st = .ok (nat u) st := rfl
          have w2 : kIxT (Pc.pre hd u v p).w (.int 2) st = .ok (nat v) st := rfl
          simp only [b_free_in, fin_rt, fin_nx, fin_exc, x_cons, thenS_nx, thenS_rt, thenS_ct, thenS_exc, x_nil, x_set, x_expr, x_ret, x_if, x_cont, x_asg, x_par, x_par3, x_for, x_loop0, outL_nx, outL_ct, outL_rt, x_raise, x_var, getV_some, x_c, x_e2, x_eT, asB_bl, x_and, x_or, x_not, x_vand, x_vor, x_vnot, x_ifE, x_chain, x_anil, x_acons, x_tup, x_lst, x_lstM, x_call, x_callD, x_CB, x_M0, x_M, x_neg, x_isi, x_iL, x_iT, asL_lst, asT_tup, x_gN, x_gT2, x_lc, x_lcEnd, x_lcEndM, x_lc0, nox_ok, x_yes, k_ii, k_eqS, k_eqI, k_lenL, k_lenT, k_tupL, k_tupT, k_lstT, k_lstS, k_int, at_0, at_1, at_2, at_3, toR_some, k_ixT, k_ixL, k_isNN, k_isNT, isS_S, x_dput, Res.bind_ok, Res.bind_exc, Res.bind_bad, List.getElem?_cons_zero, List.getElem?_cons_succ, List.set_cons_zero, List.set_cons_succ, List.length_cons, List.length_nil, if_true, if_false, Bool.false_eq_true, Bool.not_true, Bool.not_false, cond_true, cond_false, small, Nat.reduceAdd, Nat.reduceLeDiff, decide_true, decide_false, reduceCtorEq, reduceIte, tag_at, Pc.tag, d1, d2, d3, i1, i2, e4, g3, w1, w2, e5, s3]
end K85
end
section
set_option Elab.async false
set_option linter.all false
set_option maxRecDepth 100000
set_option maxHeartbeats 1000000
/-! M15: programs are whole. -/
namespace K85
open PySem Vl
structure DnV (ks : List Nat) (d : Dn) : Prop where
  ok : d.ok
  len : d.1.length ≤ 4
  dist : (sortI (d.1.map fun n : Nat => (n : Int))).length = d.1.length
  chk : d.2.chk ⟨ks, false, true, false⟩
  dp : d.2.d ≤ 12
  fv : ∀ k, d.2.fv k → k ∈ d.1
def dsz (D : List Dn) : Nat := (D.map fun d => d.2.sz).sum
def wds (D : List Dn) : List Nat := D.map fun d => d.1.length
structure PrV (D : List Dn) (m : Pc) : Prop where
  len : D.length ≤ 4
  ds : ∀ d ∈ D, DnV (wds D) d
  nm : m.nm
  rd : m.rd
  chk : m.chk ⟨wds D, false, false, false⟩
  dp : m.d ≤ 12
  sz : dsz D + m.sz ≤ 80
  t : (prT D m).length < 400
theorem dats_ints : ∀ ns : List Nat, dats (ns.map nat) = some (ns.map fun n : Nat => PyData.int n)
  | [] => rfl
  | n :: ns => dats_cons rfl (dats_ints ns)
theorem shaped_ints (ns : List Nat) : SeqAt.shaped (.tuple (ns.map fun n : Nat => PyData.int n)) = true := by
  have h1 : ∀ ns : List Nat, PyData.canLayAll0 (ns.map fun n : Nat => PyData.int n) = true ∧ PyData.depthAll (ns.map fun n : Nat => PyData.int n) = 0 := by
    intro ns
    induction ns with
    | nil => exact ⟨rfl, rfl⟩
    | cons n ns ih =>
      constructor
      · rw [List.map_cons]; unfold PyData.canLayAll0; rw [ih.1]; rfl
      · rw [List.map_cons]; unfold PyData.depthAll; rw [ih.2]; rfl
  obtain ⟨a, b⟩ := h1 ns
  unfold SeqAt.shaped PyData.canLay0 PyData.depth
  rw [a, b]
  rfl
theorem any_ints (k : Nat) : ∀ ns : List Nat, ((ns.map fun n : Nat => PyData.int n).any fun z => PyData.eqv z (.int k)) = decide (k ∈ ns)
  | [] => rfl
  | n :: ns => by
    rw [List.map_cons, List.any_cons, any_ints k ns, eqv_int]
    by_cases h : n = k
    · subst h; simp
    · have h1 : (n : Int) ≠ k := by omega
      have h2 : k ≠ n := fun e => h e.symm
      simp [h1, h2]
theorem nin_nats {k : Nat} {ns : List Nat} {st : Store} (h : k ∈ ns) : kInT true (.int k) (.tup (ns.map nat)) st = .ok (.bl false) st := by
  have e1 : dat (.int k) = some (.int k) := rfl
  have e2 : dat (.tup (ns.map nat)) = some (.tuple (ns.map fun n : Nat => PyData.int n)) := dat_tup (dats_ints ns)
  unfold kInT
  rw [e1, e2]
  simp only [shaped_int, shaped_ints, Bool.and_self, if_true, cond_true, any_ints, decide_eq_true h]
  rfl
theorem is_head_ok {d : Dn} {ks : List Nat} {st : Store} (h : DnV ks d) : f_is_head [d.w] st = .ok (.bl true) st := by
  have e1 := are_names_ok (st := st) h.ok.ps h.len
  have e2' : eLenSet (eCB kList (aCons (e2 kIxT (eVar 0) (eC (.int 0))) aNil)) [some d.w] st = .ok (.int (d.1.length : Nat)) st := by
    have q : (eCB kList (aCons (e2 kIxT (eVar 0) (eC (.int 0))) aNil)) [some d.w] st = .ok (.lst (d.1.map nat)) st := rfl
    have q2 : lstOf st (.lst (d.1.map nat)) = some (d.1.map nat) := rfl
    unfold eLenSet
    rw [q]
    simp only [Res.bind_ok, q2, intsOf_nat]
    rw [if_pos (by simp; have := h.len; omega), h.dist]
  have d1 : decide (((d.1.length : Nat) : Int) = ((d.1.map nat).length : Nat)) = true := decide_eq_true (by simp)
  have d2 : decide ((((0 : Nat) + 1 + 1 : Nat) : Int) = 2) = true := by decide
  simp only [Dn.w] at e2'
  rw [u_is_head]
  simp only [b_is_head, Dn.w, fin_rt, fin_nx, fin_exc, x_cons, thenS_nx, thenS_rt, thenS_ct, thenS_exc, x_nil, x_set, x_expr, x_ret, x_if, x_cont, x_asg, x_par, x_par3, x_for, x_loop0, outL_nx, outL_ct, outL_rt, x_raise, x_var, getV_some, x_c, x_e2, x_eT, asB_bl, x_and, x_or, x_not, x_vand, x_vor, x_vnot, x_ifE, x_chain, x_anil, x_acons, x_tup, x_lst, x_lstM, x_call, x_callD, x_CB, x_M0, x_M, x_neg, x_isi, x_iL, x_iT, asL_lst, asT_tup, x_gN, x_gT2, x_lc, x_lcEnd, x_lcEndM, x_lc0, nox_ok, x_yes, k_ii, k_eqS, k_eqI, k_lenL, k_lenT, k_tupL, k_tupT, k_lstT, k_lstS, k_int, at_0, at_1, at_2, at_3, toR_some, k_ixT, k_ixL, k_isNN, k_isNT, isS_S, x_dput, Res.bind_ok, Res.bind_exc, Res.bind_bad, List.getElem?_cons_zero, List.getElem?_cons_succ, List.set_cons_zero, List.set_cons_succ, List.length_cons, List.length_nil, if_true, if_false, Bool.false_eq_true, Bool.not_true, Bool.not_false, cond_true, cond_false, small, Nat.reduceAdd, Nat.reduceLeDiff, decide_true, decide_false, reduceCtorEq, reduceIte, ty_tup, is_tt, d2, e1, e2', d1]
def pz (D : List Dn) (k : Nat) : List W := ((D.map Dn.w).zipIdx k).map fun p => .tup [.int (p.2 : Nat), p.1]
theorem pz_cons (d : Dn) (D : List Dn) (k : Nat) : pz (d :: D) k = .tup [.int (k : Nat), d.w] :: pz D (k + 1) := rfl
theorem heads_loop {a b c x5 x6 x7 x8 x9 x10 : Option W} {ks : List Nat} {st : Store} : ∀ (D : List Dn) (k : Nat) (x y : Option W), (∀ d ∈ D, DnV ks d) →
    ∃ x' y', sLoop (gT 2 (gsCons (gN 3) (gsCons (gN 4) gsNil))) (sIf (bNot (eT (eCall 1 f_is_head (aCons (eVar 4) aNil)))) (sRaise "BadProgram" ["place"] (aCons (eTup (aCons (eC (.int 0)) (aCons (eVar 3) aNil))) aNil)) sNil) (pz D k) [a, b, c, x, y, x5, x6, x7, x8, x9, x10] st = .ok (.nx [a, b, c, x', y', x5, x6, x7, x8, x9, x10]) st
  | [], k, x, y, _ => ⟨x, y, x_loop0⟩
  | d :: D, k, x, y, h => by
    obtain ⟨x', y', e⟩ := heads_loop (a := a) (b := b) (c := c) (x5 := x5) (x6 := x6) (x7 := x7) (x8 := x8) (x9 := x9) (x10 := x10) (ks := ks) (st := st) D (k + 1) (some (.int k)) (some d.w) fun z hz => h z (List.mem_cons_of_mem _ hz)
    refine ⟨x', y', ?_⟩
    rw [pz_cons, x_loop]
    simp only [fin_rt, fin_nx, fin_exc, x_cons, thenS_nx, thenS_rt, thenS_ct, thenS_exc, x_nil, x_set, x_expr, x_ret, x_if, x_cont, x_asg, x_par, x_par3, x_for, x_loop0, outL_nx, outL_ct, outL_rt, x_raise, x_var, getV_some, x_c, x_e2, x_eT, asB_bl, x_and, x_or, x_not, x_vand, x_vor, x_vnot, x_ifE, x_chain, x_anil, x_acons, x_tup, x_lst, x_lstM, x_call, x_callD, x_CB, x_M0, x_M, x_neg, x_isi, x_iL, x_iT, asL_lst, asT_tup, x_gN, x_gT2, x_lc, x_lcEnd, x_lcEndM, x_lc0, nox_ok, x_yes, k_ii, k_eqS, k_eqI, k_lenL, k_lenT, k_tupL, k_tupT, k_lstT, k_lstS, k_int, at_0, at_1, at_2, at_3, toR_some, k_ixT, k_ixL, k_isNN, k_isNT, isS_S, x_dput, Res.bind_ok, Res.bind_exc, Res.bind_bad, List.getElem?_cons_zero, List.getElem?_cons_succ, List.set_cons_zero, List.set_cons_succ, List.length_cons, List.length_nil, if_true, if_false, Bool.false_eq_true, Bool.not_true, Bool.not_false, cond_true, cond_false, small, Nat.reduceAdd, Nat.reduceLeDiff, decide_true, decide_false, reduceCtorEq, reduceIte, is_head_ok (h d (List.mem_cons_self ..)), e]
theorem wds_lc {a b c x3 x4 x5 x6 x7 x8 x9 x10 : Option W} {st : Store} : ∀ (D : List Dn) (acc : List W), acc.length + D.length ≤ 900000 →
    lcLoop (gT 2 (gsCons (gN 9) (gsCons (gN 10) gsNil))) bYes (eCB kLen (aCons (eVar 9) aNil)) (D.map Dn.w) acc [a, b, c, x3, x4, x5, x6, x7, x8, x9, x10] st = .ok (acc ++ (wds D).map nat) st
  | [], acc, _ => by simp [x_lc0, wds]
  | d :: D, acc, h => by
    simp only [List.length_cons] at h
    have ih := wds_lc (a := a) (b := b) (c := c) (x3 := x3) (x4 := x4) (x5 := x5) (x6 := x6) (x7 := x7) (x8 := x8) (x9 := x9) (x10 := x10) (st := st) D (acc ++ [nat d.1.length]) (by simp; omega)
    have e1 : kLen [.tup (d.1.map nat)] st = .ok (nat d.1.length) st := by rw [k_lenT, List.length_map]
    rw [List.map_cons, x_lcS]
    simp only [Dn.w, fin_rt, fin_nx, fin_exc, x_cons, thenS_nx, thenS_rt, thenS_ct, thenS_exc, x_nil, x_set, x_expr, x_ret, x_if, x_cont, x_asg, x_par, x_par3, x_for, x_loop0, outL_nx, outL_ct, outL_rt, x_raise, x_var, getV_some, x_c, x_e2, x_eT, asB_bl, x_and, x_or, x_not, x_vand, x_vor, x_vnot, x_ifE, x_chain, x_anil, x_acons, x_tup, x_lst, x_lstM, x_call, x_callD, x_CB, x_M0, x_M, x_neg, x_isi, x_iL, x_iT, asL_lst, asT_tup, x_gN, x_gT2, x_lc, x_lcEnd, x_lcEndM, x_lc0, nox_ok, x_yes, k_ii, k_eqS, k_eqI, k_lenL, k_lenT, k_tupL, k_tupT, k_lstT, k_lstS, k_int, at_0, at_1, at_2, at_3, toR_some, k_ixT, k_ixL, k_isNN, k_isNT, isS_S, x_dput, Res.bind_ok, Res.bind_exc, Res.bind_bad, List.getElem?_cons_zero, List.getElem?_cons_succ, List.set_cons_zero, List.set_cons_succ, List.length_cons, List.length_nil, if_true, if_false, Bool.false_eq_true, Bool.not_true, Bool.not_false, cond_true, cond_false, small, Nat.reduceAdd, Nat.reduceLeDiff, decide_true, decide_false, reduceCtorEq, reduceIte, e1]
    rw [if_pos (decide_eq_true (by omega)), ih]
    simp [wds]
theorem chk_loop {a b c x5 x8 x9 x10 : Option W} {r : Rl} {s0 : Store} {i : Nat} (hi : s0[i]? = some (.D r.D)) : ∀ (D : List Dn) (k n : Nat) (x y : Option W) (st : Store), Grew s0 st → (∀ d ∈ D, d.2.nm ∧ d.2.chk r ∧ d.2.d ≤ 12) → n + dsz D ≤ 80 →
    ∃ st' x' y', Grew s0 st' ∧ sLoop (gT 2 (gsCons (gN 3) (gsCons (gN 4) gsNil))) (sSet 7 (eCall 5 (f_checked 20) (aCons (e2 kIxT (eVar 4) (eC (.int 1))) (aCons (eTup (aCons (eC (.int 0)) (aCons (eVar 3) (aCons (eC (.int 1)) aNil)))) (aCons (eC (.int 1)) (aCons (eVar 7) (aCons (eVar 6) aNil))))))) (pz D k) [a, b, c, x, y, x5, some (.obj i), some (.int n), x8, x9, x10] st = .ok (.nx [a, b, c, x', y', x5, some (.obj i), some (.int (n + dsz D : Nat)), x8, x9, x10]) st'
  | [], k, n, x, y, st, hg, _, _ => ⟨st, x, y, hg, by simp [dsz, pz, x_loop0]⟩
  | d :: D, k, n, x, y, st, hg, h, hn => by
    obtain ⟨h1, h2, h3⟩ := h d (List.mem_cons_self ..)
    have e0 : dsz (d :: D) = d.2.sz + dsz D := by simp [dsz]
    rw [e0] at hn
    obtain ⟨st1, g1, e1⟩ := checked_ok 20 d.2 r [.int 0, .int k, .int 1] 1 n i st (hg.get hi) h1 h2 (by omega) (by omega) (by simp; omega) (by omega)
    obtain ⟨st', x', y', g2, e2'⟩ := chk_loop (a := a) (b := b) (c := c) (x5 := x5) (x8 := x8) (x9 := x9) (x10 := x10) hi D (k + 1) (n + d.2.sz) (some (.int k)) (some d.w) st1 (hg.trans g1) (fun z hz => h z (List.mem_cons_of_mem _ hz)) (by omega)
    refine ⟨st', x', y', g2, ?_⟩
    rw [show ((1 : Nat) : Int) = 1 from rfl] at e1
    rw [pz_cons, x_loop]
    simp only [Dn.w] at e2'
    simp only [Dn.w, fin_rt, fin_nx, fin_exc, x_cons, thenS_nx, thenS_rt, thenS_ct, thenS_exc, x_nil, x_set, x_expr, x_ret, x_if, x_cont, x_asg, x_par, x_par3, x_for, x_loop0, outL_nx, outL_ct, outL_rt, x_raise, x_var, getV_some, x_c, x_e2, x_eT, asB_bl, x_and, x_or, x_not, x_vand, x_vor, x_vnot, x_ifE, x_chain, x_anil, x_acons, x_tup, x_lst, x_lstM, x_call, x_callD, x_CB, x_M0, x_M, x_neg, x_isi, x_iL, x_iT, asL_lst, asT_tup, x_gN, x_gT2, x_lc, x_lcEnd, x_lcEndM, x_lc0, nox_ok, x_yes, k_ii, k_eqS, k_eqI, k_lenL, k_lenT, k_tupL, k_tupT, k_lstT, k_lstS, k_int, at_0, at_1, at_2, at_3, toR_some, k_ixT, k_ixL, k_isNN, k_isNT, isS_S, x_dput, Res.bind_ok, Res.bind_exc, Res.bind_bad, List.getElem?_cons_zero, List.getElem?_cons_succ, List.set_cons_zero, List.set_cons_succ, List.length_cons, List.length_nil, if_true, if_false, Bool.false_eq_true, Bool.not_true, Bool.not_false, cond_true, cond_false, small, Nat.reduceAdd, Nat.reduceLeDiff, decide_true, decide_false, reduceCtorEq, reduceIte, e1, e2', e0]
    rw [Nat.add_assoc]
theorem names_in {a b c x3 y5 y6 y7 x9 x10 : Option W} {ps : List Nat} {bw : W} {st : Store} : ∀ (ns : List Nat) (x : Option W), (∀ k ∈ ns, k ∈ ps) →
    ∃ x', sLoop (gN 8) (sIf (eT (e2 (kInT true) (eVar 8) (e2 kIxT (eVar 4) (eC (.int 0))))) (sRaise "BadProgram" ["place"] (aCons (eTup (aCons (eC (.int 0)) (aCons (eVar 3) aNil))) aNil)) sNil) (ns.map nat) [a, b, c, x3, some (.tup [.tup (ps.map nat), bw]), y5, y6, y7, x, x9, x10] st = .ok (.nx [a, b, c, x3, some (.tup [.tup (ps.map nat), bw]), y5, y6, y7, x', x9, x10]) st
  | [], x, _ => ⟨x, x_loop0⟩
  | n :: ns, x, h => by
    obtain ⟨x', e⟩ := names_in (a := a) (b := b) (c := c) (x3 := x3) (y5 := y5) (y6 := y6) (y7 := y7) (x9 := x9) (x10 := x10) (ps := ps) (bw := bw) (st := st) ns (some (.int n)) fun z hz => h z (List.mem_cons_of_mem _ hz)
    refine ⟨x', ?_⟩
    rw [List.map_cons, x_loop]
    simp only [nat, fin_rt, fin_nx, fin_exc, x_cons, thenS_nx, thenS_rt, thenS_ct, thenS_exc, x_nil, x_set, x_expr, x_ret, x_if, x_cont, x_asg, x_par, x_par3, x_for, x_loop0, outL_nx, outL_ct, outL_rt, x_raise, x_var, getV_some, x_c, x_e2, x_eT, asB_bl, x_and, x_or, x_not, x_vand, x_vor, x_vnot, x_ifE, x_chain, x_anil, x_acons, x_tup, x_lst, x_lstM, x_call, x_callD, x_CB, x_M0, x_M, x_neg, x_isi, x_iL, x_iT, asL_lst, asT_tup, x_gN, x_gT2, x_lc, x_lcEnd, x_lcEndM, x_lc0, nox_ok, x_yes, k_ii, k_eqS, k_eqI, k_lenL, k_lenT, k_tupL, k_tupT, k_lstT, k_lstS, k_int, at_0, at_1, at_2, at_3, toR_some, k_ixT, k_ixL, k_isNN, k_isNT, isS_S, x_dput, Res.bind_ok, Res.bind_exc, Res.bind_bad, List.getElem?_cons_zero, List.getElem?_cons_succ, List.set_cons_zero, List.set_cons_succ, List.length_cons, List.length_nil, if_true, if_false, Bool.false_eq_true, Bool.not_true, Bool.not_false, cond_true, cond_false, small, Nat.reduceAdd, Nat.reduceLeDiff, decide_true, decide_false, reduceCtorEq, reduceIte, nin_nats (h n (List.mem_cons_self ..))]
    exact e
theorem fv_loop {a b c y5 y6 y7 x9 x10 : Option W} {ks : List Nat} {st : Store} : ∀ (D : List Dn) (k : Nat) (x y z : Option W), (∀ d ∈ D, DnV ks d) →
    ∃ x' y' z', sLoop (gT 2 (gsCons (gN 3) (gsCons (gN 4) gsNil))) (sFor (iT (eCall 1 (f_free_in 20) (aCons (e2 kIxT (eVar 4) (eC (.int 1))) aNil))) (gN 8) (sIf (eT (e2 (kInT true) (eVar 8) (e2 kIxT (eVar 4) (eC (.int 0))))) (sRaise "BadProgram" ["place"] (aCons (eTup (aCons (eC (.int 0)) (aCons (eVar 3) aNil))) aNil)) sNil)) (pz D k) [a, b, c, x, y, y5, y6, y7, z, x9, x10] st = .ok (.nx [a, b, c, x', y', y5, y6, y7, z', x9, x10]) st
  | [], k, x, y, z, _ => ⟨x, y, z, x_loop0⟩
  | d :: D, k, x, y, z, h => by
    have hd := h d (List.mem_cons_self ..)
    obtain ⟨ns, n1, n2, n3⟩ := free_ok 20 d.2 _ st (by have := hd.dp; omega) hd.ok.nm hd.chk
    obtain ⟨z1, e1⟩ := names_in (a := a) (b := b) (c := c) (x3 := some (.int k)) (y5 := y5) (y6 := y6) (y7 := y7) (x9 := x9) (x10 := x10) (ps := d.1) (bw := d.2.w) (st := st) ns z fun k hk => hd.fv k (n1 k hk).1
    obtain ⟨x', y', z', e⟩ := fv_loop (a := a) (b := b) (c := c) (y5 := y5) (y6 := y6) (y7 := y7) (x9 := x9) (x10 := x10) (ks := ks) (st := st) D (k + 1) (some (.int k)) (some d.w) z1 fun z hz => h z (List.mem_cons_of_mem _ hz)
    refine ⟨x', y', z', ?_⟩
    rw [pz_cons, x_loop]
    simp only [Dn.w] at e
    simp only [Dn.w, fin_rt, fin_nx, fin_exc, x_cons, thenS_nx, thenS_rt, thenS_ct, thenS_exc, x_nil, x_set, x_expr, x_ret, x_if, x_cont, x_asg, x_par, x_par3, x_for, x_loop0, outL_nx, outL_ct, outL_rt, x_raise, x_var, getV_some, x_c, x_e2, x_eT, asB_bl, x_and, x_or, x_not, x_vand, x_vor, x_vnot, x_ifE, x_chain, x_anil, x_acons, x_tup, x_lst, x_lstM, x_call, x_callD, x_CB, x_M0, x_M, x_neg, x_isi, x_iL, x_iT, asL_lst, asT_tup, x_gN, x_gT2, x_lc, x_lcEnd, x_lcEndM, x_lc0, nox_ok, x_yes, k_ii, k_eqS, k_eqI, k_lenL, k_lenT, k_tupL, k_tupT, k_lstT, k_lstS, k_int, at_0, at_1, at_2, at_3, toR_some, k_ixT, k_ixL, k_isNN, k_isNT, isS_S, x_dput, Res.bind_ok, Res.bind_exc, Res.bind_bad, List.getElem?_cons_zero, List.getElem?_cons_succ, List.set_cons_zero, List.set_cons_succ, List.length_cons, List.length_nil, if_true, if_false, Bool.false_eq_true, Bool.not_true, Bool.not_false, cond_true, cond_false, small, Nat.reduceAdd, Nat.reduceLeDiff, decide_true, decide_false, reduceCtorEq, reduceIte, n3, e1, e]
theorem gone_ok {D : List Dn} {m : Pc} {st : Store} (h : PrV D m) : ∃ st', Grew st st' ∧ f_gone_through [prW D m, .bl false, .bl false] st = .ok (.int (dsz D + m.sz : Nat)) st' := by
  obtain ⟨x3, x4, e1⟩ := heads_loop (a := some (prW D m)) (b := some (.bl false)) (c := some (.bl false)) (x5 := none) (x6 := none) (x7 := none) (x8 := none) (x9 := none) (x10 := none) (st := st) D 0 none none h.ds
  have e2' := wds_lc (a := some (prW D m)) (b := some (.bl false)) (c := some (.bl false)) (x3 := x3) (x4 := x4) (x5 := none) (x6 := none) (x7 := none) (x8 := none) (x9 := none) (x10 := none) (st := st) D [] (by simp; have := h.len; omega)
  rw [List.nil_append] at e2'
  have e3 : eDisp ["widths", "branch", "body", "behind", "hole", "rows"] (aCons (eVar 5) (aCons (eC (.bl false)) (aCons (eC (.bl true)) (aCons (eC (.bl false)) (aCons (eC (.bl false)) (aCons (eVar 2) aNil)))))) [some (prW D m), some (.bl false), some (.bl false), x3, x4, some (.tup ((wds D).map nat)), none, none, none, none, none] st = .ok (.obj st.length) (st ++ [.D (Rl.mk (wds D) false true false).D]) := by
    unfold eDisp
    simp only [fin_rt, fin_nx, fin_exc, x_cons, thenS_nx, thenS_rt, thenS_ct, thenS_exc, x_nil, x_set, x_expr, x_ret, x_if, x_cont, x_asg, x_par, x_par3, x_for, x_loop0, outL_nx, outL_ct, outL_rt, x_raise, x_var, getV_some, x_c, x_e2, x_eT, asB_bl, x_and, x_or, x_not, x_vand, x_vor, x_vnot, x_ifE, x_chain, x_anil, x_acons, x_tup, x_lst, x_lstM, x_call, x_callD, x_CB, x_M0, x_M, x_neg, x_isi, x_iL, x_iT, asL_lst, asT_tup, x_gN, x_gT2, x_lc, x_lcEnd, x_lcEndM, x_lc0, nox_ok, x_yes, k_ii, k_eqS, k_eqI, k_lenL, k_lenT, k_tupL, k_tupT, k_lstT, k_lstS, k_int, at_0, at_1, at_2, at_3, toR_some, k_ixT, k_ixL, k_isNN, k_isNT, isS_S, x_dput, Res.bind_ok, Res.bind_exc, Res.bind_bad, List.getElem?_cons_zero, List.getElem?_cons_succ, List.set_cons_zero, List.set_cons_succ, List.length_cons, List.length_nil, if_true, if_false, Bool.false_eq_true, Bool.not_true, Bool.not_false, cond_true, cond_false, small, Nat.reduceAdd, Nat.reduceLeDiff, decide_true, decide_false, reduceCtorEq, reduceIte, top_get]
    rw [top_set]
    rfl
  have hi : (st ++ [MO.D (Rl.mk (wds D) false true false).D])[st.length]? = some (.D (Rl.mk (wds D) false true false).D) := top_get
  obtain ⟨st1, x3', x4', g1, e4⟩ := chk_loop (a := some (prW D m)) (b := some (.bl false)) (c := some (.bl false)) (x5 := some (.tup ((wds D).map nat))) (x8 := none) (x9 := none) (x10 := none) hi D 0 0 x3 x4 _ Grew.refl (fun d hd => ⟨(h.ds d hd).ok.nm, (h.ds d hd).chk, (h.ds d hd).dp⟩) (by have := h.sz; omega)
  rw [show ((0 : Nat) : Int) = 0 from rfl, Nat.zero_add] at e4
  have hi1 := g1.get hi
  have hl1 : st.length < st1.length := (List.getElem?_eq_some_iff.mp hi1).1
  have g0 : Grew st st1 := (Grew.refl.push rfl).trans g1
  have hi2 : (st1.set st.length (.D (Rl.mk (wds D) false false false).D))[st.length]? = some (.D (Rl.mk (wds D) false false false).D) := List.getElem?_set_self hl1
  have hl2 : st.length < (st1.set st.length (.D (Rl.mk (wds D) false false false).D)).length := by simpa using hl1
  have hi3 : ((st1.set st.length (.D (Rl.mk (wds D) false false false).D)).set st.length (.D (Rl.mk (wds D) false false false).D))[st.length]? = some (.D (Rl.mk (wds D) false false false).D) := List.getElem?_set_self hl2
  have g2 : Grew st ((st1.set st.length (.D (Rl.mk (wds D) false false false).D)).set st.length (.D (Rl.mk (wds D) false false false).D)) := (g0.set (Nat.le_refl _) rfl).set (Nat.le_refl _) rfl
  obtain ⟨st2, g3, e5⟩ := checked_ok 20 m _ [.int 1] 1 (dsz D) st.length _ hi3 h.nm h.chk (by have := h.dp; omega) (by have := h.dp; omega) (by have := h.dp; simp; omega) h.sz
  rw [show ((1 : Nat) : Int) = 1 from rfl] at e5
  obtain ⟨x3'', x4'', x8, e6⟩ := fv_loop (a := some (prW D m)) (b := some (.bl false)) (c := some (.bl false)) (y5 := some (.tup ((wds D).map nat))) (y6 := some (.obj st.length)) (y7 := some (.int (dsz D + m.sz : Nat))) (x9 := none) (x10 := none) (st := st2) D 0 x3' x4' none h.ds
  refine ⟨st2, g2.trans g3, ?_⟩
  have d1 : decide ((((0 : Nat) + 1 + 1 : Nat) : Int) = 2) = true := by decide
  have d2 : decide ((4 : Int) < ((D.map Dn.w).length : Nat)) = false := decide_eq_false (by have := h.len; simp; omega)
  have en : ∀ (x1 x2 x3 x4 x5 x6 x7 x8 x9 x10 : Option W) (st : Store), iEnT (aCons (e2 kIxT (eVar 0) (eC (.int 0))) aNil) [some (.tup [.tup (D.map Dn.w), m.w]), x1, x2, x3, x4, x5, x6, x7, x8, x9, x10] st = .ok (pz D 0) st := fun _ _ _ _ _ _ _ _ _ _ _ => rfl
  have len1 : ∀ r : Rl, (r.D.length < 1000) = True := fun r => by simp [Rl.D]
  simp only [prW] at e1 e2' e3 e4 e6
  rw [u_gone_through]
  simp only [b_gone_through, prW, fin_rt, fin_nx, fin_exc, x_cons, thenS_nx, thenS_rt, thenS_ct, thenS_exc, x_nil, x_set, x_expr, x_ret, x_if, x_cont, x_asg, x_par, x_par3, x_for, x_loop0, outL_nx, outL_ct, outL_rt, x_raise, x_var, getV_some, x_c, x_e2, x_eT, asB_bl, x_and, x_or, x_not, x_vand, x_vor, x_vnot, x_ifE, x_chain, x_anil, x_acons, x_tup, x_lst, x_lstM, x_call, x_callD, x_CB, x_M0, x_M, x_neg, x_isi, x_iL, x_iT, asL_lst, asT_tup, x_gN, x_gT2, x_lc, x_lcEnd, x_lcEndM, x_lc0, nox_ok, x_yes, k_ii, k_eqS, k_eqI, k_lenL, k_lenT, k_tupL, k_tupT, k_lstT, k_lstS, k_int, at_0, at_1, at_2, at_3, toR_some, k_ixT, k_ixL, k_isNN, k_isNT, isS_S, x_dput, Res.bind_ok, Res.bind_exc, Res.bind_bad, List.getElem?_cons_zero, List.getElem?_cons_succ, List.set_cons_zero, List.set_cons_succ, List.length_cons, List.length_nil, if_true, if_false, Bool.false_eq_true, Bool.not_true, Bool.not_false, cond_true, cond_false, small, Nat.reduceAdd, Nat.reduceLeDiff, decide_true, decide_false, reduceCtorEq, reduceIte, ty_tup, is_tt, d1, d2, en, e1, e2', e3, e4, hi1, len1, put_body, hi2, put_hole, e5, e6]
end K85
end
section
set_option Elab.async false
set_option linter.all false
set_option maxRecDepth 100000
set_option maxHeartbeats 1000000
/-! M16: texts of programs, there and back. -/
namespace K85
open PySem Vl
variable {D : List Dn} {m : Pc} {st : Store}
theorem need_program_ok (h : PrV D m) : ∃ st', Grew st st' ∧ f_need_program [prW D m] st = .ok (prW D m) st' := by
  obtain ⟨st', g, e⟩ := gone_ok (st := st) h
  refine ⟨st', g, ?_⟩
  rw [u_need_program]
  simp only [b_need_program, fin_rt, fin_nx, fin_exc, x_cons, thenS_nx, thenS_rt, thenS_ct, thenS_exc, x_nil, x_set, x_expr, x_ret, x_if, x_cont, x_asg, x_par, x_par3, x_for, x_loop0, outL_nx, outL_ct, outL_rt, x_raise, x_var, getV_some, x_c, x_e2, x_eT, asB_bl, x_and, x_or, x_not, x_vand, x_vor, x_vnot, x_ifE, x_chain, x_anil, x_acons, x_tup, x_lst, x_lstM, x_call, x_callD, x_CB, x_M0, x_M, x_neg, x_isi, x_iL, x_iT, asL_lst, asT_tup, x_gN, x_gT2, x_lc, x_lcEnd, x_lcEndM, x_lc0, nox_ok, x_yes, k_ii, k_eqS, k_eqI, k_lenL, k_lenT, k_tupL, k_tupT, k_lstT, k_lstS, k_int, at_0, at_1, at_2, at_3, toR_some, k_ixT, k_ixL, k_isNN, k_isNT, isS_S, x_dput, Res.bind_ok, Res.bind_exc, Res.bind_bad, List.getElem?_cons_zero, List.getElem?_cons_succ, List.set_cons_zero, List.set_cons_succ, List.length_cons, List.length_nil, if_true, if_false, Bool.false_eq_true, Bool.not_true, Bool.not_false, cond_true, cond_false, small, Nat.reduceAdd, Nat.reduceLeDiff, decide_true, decide_false, reduceCtorEq, reduceIte, List.append, List.cons_append, List.nil_append, e]
theorem sum_len : ∀ ws : List Str, (∀ w ∈ ws, w.length ≤ 10) → (ws.map (·.length)).sum ≤ 10 * ws.length
  | [], _ => Nat.le_refl _
  | w :: ws, h => by
    have := sum_len ws fun z hz => h z (List.mem_cons_of_mem _ hz)
    have := h w (List.mem_cons_self ..)
    simp only [List.map_cons, List.sum_cons, List.length_cons]
    omega
theorem PrV.oks (h : PrV D m) : ∀ d ∈ D, d.ok := fun d hd => (h.ds d hd).ok
theorem PrV.words (h : PrV D m) : ∀ w ∈ prT D m, okw w = true := okw_pr h.oks h.nm
theorem PrV.lens (h : PrV D m) : ((prT D m).map (·.length)).sum + (prT D m).length ≤ 10000 := by
  have := sum_len _ fun w hw => okw_len (h.words w hw)
  have := h.t
  omega
def prX (D : List Dn) (m : Pc) : Str := Str.join " " (prT D m)
theorem PrV.xlen (h : PrV D m) : (prX D m).length ≤ 20000 := by
  have := StrLaws.join_length_le " " (prT D m)
  have h1 : (" " : Str).length = 1 := rfl
  rw [h1] at this
  have := h.lens
  unfold prX
  omega
theorem program_text_ok (h : PrV D m) : ∃ st', Grew st st' ∧ f_program_text [prW D m] st = .ok (.str (prX D m)) st' := by
  obtain ⟨st', g, e⟩ := need_program_ok (st := st) h
  have e2' := program_words_ok (st := st') h.oks h.nm (by have := h.dp; omega) (by have := h.t; omega)
  have e3 := join_ok (ws := prT D m) (st := st') (by have := h.lens; omega)
  refine ⟨st', g, ?_⟩
  rw [u_program_text]
  simp only [b_program_text, fin_rt, fin_nx, fin_exc, x_cons, thenS_nx, thenS_rt, thenS_ct, thenS_exc, x_nil, x_set, x_expr, x_ret, x_if, x_cont, x_asg, x_par, x_par3, x_for, x_loop0, outL_nx, outL_ct, outL_rt, x_raise, x_var, getV_some, x_c, x_e2, x_eT, asB_bl, x_and, x_or, x_not, x_vand, x_vor, x_vnot, x_ifE, x_chain, x_anil, x_acons, x_tup, x_lst, x_lstM, x_call, x_callD, x_CB, x_M0, x_M, x_neg, x_isi, x_iL, x_iT, asL_lst, asT_tup, x_gN, x_gT2, x_lc, x_lcEnd, x_lcEndM, x_lc0, nox_ok, x_yes, k_ii, k_eqS, k_eqI, k_lenL, k_lenT, k_tupL, k_tupT, k_lstT, k_lstS, k_int, at_0, at_1, at_2, at_3, toR_some, k_ixT, k_ixL, k_isNN, k_isNT, isS_S, x_dput, Res.bind_ok, Res.bind_exc, Res.bind_bad, List.getElem?_cons_zero, List.getElem?_cons_succ, List.set_cons_zero, List.set_cons_succ, List.length_cons, List.length_nil, if_true, if_false, Bool.false_eq_true, Bool.not_true, Bool.not_false, cond_true, cond_false, small, Nat.reduceAdd, Nat.reduceLeDiff, decide_true, decide_false, reduceCtorEq, reduceIte, e, e2', isS_S, e3, prX]
theorem read_program_ok {x : Str} (h : PrV D m) (hx : Reads x (prT D m)) (hl : x.length ≤ 800000) : ∃ st', Grew st st' ∧ f_read_program [.str x] st = .ok (prW D m) st' := by
  have e1 := words_of_reads (st := st) hx hl
  obtain ⟨st1, g1, e2'⟩ := program_from_ok (l := .int 0) (st := st) h.oks h.nm h.rd h.t
  obtain ⟨st2, g2, e3⟩ := need_program_ok (st := st1) h
  refine ⟨st2, g1.trans g2, ?_⟩
  rw [u_read_program]
  simp only [b_read_program, fin_rt, fin_nx, fin_exc, x_cons, thenS_nx, thenS_rt, thenS_ct, thenS_exc, x_nil, x_set, x_expr, x_ret, x_if, x_cont, x_asg, x_par, x_par3, x_for, x_loop0, outL_nx, outL_ct, outL_rt, x_raise, x_var, getV_some, x_c, x_e2, x_eT, asB_bl, x_and, x_or, x_not, x_vand, x_vor, x_vnot, x_ifE, x_chain, x_anil, x_acons, x_tup, x_lst, x_lstM, x_call, x_callD, x_CB, x_M0, x_M, x_neg, x_isi, x_iL, x_iT, asL_lst, asT_tup, x_gN, x_gT2, x_lc, x_lcEnd, x_lcEndM, x_lc0, nox_ok, x_yes, k_ii, k_eqS, k_eqI, k_lenL, k_lenT, k_tupL, k_tupT, k_lstT, k_lstS, k_int, at_0, at_1, at_2, at_3, toR_some, k_ixT, k_ixL, k_isNN, k_isNT, isS_S, x_dput, Res.bind_ok, Res.bind_exc, Res.bind_bad, List.getElem?_cons_zero, List.getElem?_cons_succ, List.set_cons_zero, List.set_cons_succ, List.length_cons, List.length_nil, if_true, if_false, Bool.false_eq_true, Bool.not_true, Bool.not_false, cond_true, cond_false, small, Nat.reduceAdd, Nat.reduceLeDiff, decide_true, decide_false, reduceCtorEq, reduceIte, ty_str, is_ss, e1, e2', e3]
theorem reads_join (h : PrV D m) : Reads (prX D m) (prT D m) := tk_words _ h.words
/-! ### likeness -/
theorem like_ok {a b : W} {d : PyData} (ha : isRef a = true) (hb : isRef b = true) (h1 : dat a = some d) (h2 : dat b = some d) (h3 : datS st a = dat a) (h4 : datS st b = dat b) (hd : okD d = true) : f__law_like [a, b] st = .ok (.bl true) st := by
  have e1 : kRepr [a] st = .ok (.str d.shown) st := by
    unfold kRepr
    simp only [h3, h1, ha, hd, Bool.and_self, if_true]
  have e2' : kRepr [b] st = .ok (.str d.shown) st := by
    unfold kRepr
    simp only [h4, h2, hb, hd, Bool.and_self, if_true]
  have d1 : decide (d.shown = d.shown) = true := decide_eq_true rfl
  rw [u__law_like]
  simp only [b__law_like, fin_rt, fin_nx, fin_exc, x_cons, thenS_nx, thenS_rt, thenS_ct, thenS_exc, x_nil, x_set, x_expr, x_ret, x_if, x_cont, x_asg, x_par, x_par3, x_for, x_loop0, outL_nx, outL_ct, outL_rt, x_raise, x_var, getV_some, x_c, x_e2, x_eT, asB_bl, x_and, x_or, x_not, x_vand, x_vor, x_vnot, x_ifE, x_chain, x_anil, x_acons, x_tup, x_lst, x_lstM, x_call, x_callD, x_CB, x_M0, x_M, x_neg, x_isi, x_iL, x_iT, asL_lst, asT_tup, x_gN, x_gT2, x_lc, x_lcEnd, x_lcEndM, x_lc0, nox_ok, x_yes, k_ii, k_eqS, k_eqI, k_lenL, k_lenT, k_tupL, k_tupT, k_lstT, k_lstS, k_int, at_0, at_1, at_2, at_3, toR_some, k_ixT, k_ixL, k_isNN, k_isNT, isS_S, x_dput, Res.bind_ok, Res.bind_exc, Res.bind_bad, List.getElem?_cons_zero, List.getElem?_cons_succ, List.set_cons_zero, List.set_cons_succ, List.length_cons, List.length_nil, if_true, if_false, Bool.false_eq_true, Bool.not_true, Bool.not_false, cond_true, cond_false, small, Nat.reduceAdd, Nat.reduceLeDiff, decide_true, decide_false, reduceCtorEq, reduceIte, e1, e2', d1]
theorem defs_dat : ∀ D : List Dn, (∀ d ∈ D, DnV (wds D) d ∨ d.ok ∧ d.2.d ≤ 12) → ∃ ds, dats (D.map Dn.w) = some ds ∧ GL ds 30 (D.length + 60 * (dsT D).length)
  | [], _ => ⟨[], rfl, .nil⟩
  | d :: D, h => by
    obtain ⟨ds, e, g⟩ := defs_dat D fun z hz => .inr (by
      rcases h z (List.mem_cons_of_mem _ hz) with q | q
      · exact ⟨q.ok, q.dp⟩
      · exact q)
    have hd : d.ok ∧ d.2.d ≤ 12 := by
      rcases h d (List.mem_cons_self ..) with q | q
      · exact ⟨q.ok, q.dp⟩
      · exact q
    obtain ⟨ps, e1, g1⟩ := dats_nats (a := 28) d.1 hd.1.ps
    obtain ⟨c, cs, e2', _, g2⟩ := piece_dat d.2 hd.1.nm
    have hdp := hd.2
    have g3 := GD.tup (GL.cons (GD.tup g1) (GL.cons (g2.up (b := 29) (by omega) (Nat.le_refl _)) (GL.nil (n := 0))))
    refine ⟨_, dats_cons (dat_tup (dats_cons (dat_tup e1) (dats_cons e2' rfl))) e, (GL.cons g3 g).up (Nat.le_refl _) ?_⟩
    rw [dsT_cons, List.length_append, t_len, List.length_cons]
    omega
theorem pr_dat (h : PrV D m) : ∃ d, dat (prW D m) = some d ∧ GD d 32 50000 := by
  obtain ⟨ds, e, g⟩ := defs_dat D fun d hd => .inl (h.ds d hd)
  obtain ⟨c, cs, e2', _, g2⟩ := piece_dat m h.nm
  have := h.dp
  have g3 := GD.tup (GL.cons (GD.tup g) (GL.cons (g2.up (b := 31) (by omega) (Nat.le_refl _)) (GL.nil (n := 0))))
  refine ⟨_, dat_tup (dats_cons (dat_tup e) (dats_cons e2' rfl)), g3.up (Nat.le_refl _) ?_⟩
  have h1 := h.t
  have h2 := h.len
  simp only [prT, List.length_append] at h1
  omega
end K85
end
section
set_option Elab.async false
set_option linter.all false
set_option maxRecDepth 100000
set_option maxHeartbeats 1000000
/-! M17: draws. -/
namespace K85
open PySem Vl
def stD (cells : List Int) (at_ : Nat) : List (Str × W) := [("cells", .lst (cells.map W.int)), ("lefts", .obj 2), ("at", .int at_)]
/-- the draws' state -/
structure SV (P : Addr) (cells : List Int) (B : Nat) (st : Store) : Prop where
  ex : ∃ (at_ : Nat) (lefts : List Int), st[1]? = some (.D (stD cells at_)) ∧ st[2]? = some (.L (lefts.map W.int)) ∧ lefts.length = cells.length ∧ at_ ≤ B
  pos : 0 < cells.length
  len : cells.length ≤ 63
  tab : Grew [.tab P tQ] st
/-- what came later stays -/
def Mv (st st' : Store) : Prop := ∀ i m, 3 ≤ i → st[i]? = some m → st'[i]? = some m
theorem Mv.refl {st : Store} : Mv st st := fun _ _ _ h => h
theorem Mv.trans {a b c : Store} (h : Mv a b) (h' : Mv b c) : Mv a c := fun i m hi e => h' i m hi (h i m hi e)
theorem Grew.mv {a b : Store} (h : Grew a b) : Mv a b := fun _ _ _ e => h.get e
variable {P : Addr} {cells : List Int} {B : Nat} {st st' : Store}
theorem SV.grew (h : SV P cells B st) (g : Grew st st') : SV P cells B st' := by
  obtain ⟨a, l, h1, h2, h3, h4⟩ := h.ex
  exact ⟨⟨a, l, g.get h1, g.get h2, h3, h4⟩, h.pos, h.len, h.tab.trans g⟩
theorem SV.up {B' : Nat} (h : SV P cells B st) (hb : B ≤ B') : SV P cells B' st := by
  obtain ⟨a, l, h1, h2, h3, h4⟩ := h.ex
  exact ⟨⟨a, l, h1, h2, h3, by omega⟩, h.pos, h.len, h.tab⟩
theorem SV.tabs (h : SV P cells B st) : okTabs P tQ st = true := by
  obtain ⟨ex, rfl, h2⟩ := h.tab
  unfold okTabs
  rw [Bool.and_eq_true]
  refine ⟨by simp, ?_⟩
  rw [List.all_eq_true] at h2 ⊢
  intro x hx
  rcases List.mem_append.mp hx with hx | hx
  · rw [List.mem_singleton.mp hx]
    simp [isTb]
  · have := h2 x hx
    cases x with
    | tab a b => simp [MO.isTab] at this
    | _ => rfl
theorem in64 {z : Int} (h : -18446744073709551616 < z) (h2 : z < 18446744073709551616) : decide (-(2 ^ 64) < z ∧ z < 2 ^ 64) = true := decide_eq_true ⟨by omega, by omega⟩
theorem mulL {i j : Int} {st : Store} (h : -18446744073709551616 < i) (h2 : i < 18446744073709551616) : kMul (.int i) (.int j) st = .ok (.int (i * j)) st := by
  show (if (decide (-(2 ^ 64) < i ∧ i < 2 ^ 64) || decide (-(2 ^ 64) < j ∧ j < 2 ^ 64)) = true then Res.ok (W.int (i * j)) st else .bad) = _
  rw [in64 h h2, Bool.true_or, if_pos rfl]
theorem mulR {i j : Int} {st : Store} (h : -18446744073709551616 < j) (h2 : j < 18446744073709551616) : kMul (.int i) (.int j) st = .ok (.int (i * j)) st := by
  show (if (decide (-(2 ^ 64) < i ∧ i < 2 ^ 64) || decide (-(2 ^ 64) < j ∧ j < 2 ^ 64)) = true then Res.ok (W.int (i * j)) st else .bad) = _
  rw [in64 h h2, Bool.or_true, if_pos rfl]
theorem modP {i j : Int} {st : Store} (h : 0 < j) : kMod (.int i) (.int j) st = .ok (.int (i % j)) st := by
  show (if decide (0 < j) = true then Res.ok (W.int (i % j)) st else .bad) = _
  rw [decide_eq_true h, if_pos rfl]
theorem divP {i j : Int} {st : Store} (h : 0 < j) (h2 : j < 1073741824) : kDiv (.int i) (.int j) st = .ok (.int (i / j)) st := by
  show (if decide (0 < j ∧ j < 1073741824) = true then Res.ok (W.int (i / j)) st else .bad) = _
  rw [decide_eq_true ⟨h, h2⟩, if_pos rfl]
def bm (M N A C : Int) : EvS := (sCons (sSet 0 (e2 kMod (eCB kInt (aCons (eVar 0) aNil)) (eC (.int M)))) (sRet (e2 kMod (e2 kMul (e2 kMod (e2 kAdd (e2 kAdd (e2 kMul (eVar 0) (e2 kAdd (eC (.int A)) (e2 kMul (e2 kMul (eC (.int 2)) (eVar 1)) (eVar 1)))) (e2 kMul (eC (.int C)) (eVar 1))) (eC (.int 11))) (eC (.int M))) (eC (.int C))) (eC (.int N)))))
theorem bm_eq : b__law_mixed = bm 2147483647 2147483629 48271 69621 := rfl
def bd (M : Int) : EvS := (sCons (sSet 2 (e2 kDGet (eVar 0) (eC (.str "at")))) (sCons (sDPutV (eVar 0) (eC (.str "at")) (e2 kAdd (eVar 2) (eC (.int 1)))) (sCons (sSet 3 (e2 kMod (eCB kInt (aCons (eVar 2) aNil)) (eCB kLen (aCons (e2 kDGet (eVar 0) (eC (.str "cells"))) aNil)))) (sCons (sSet 4 (e2 kIx (e2 kDGet (eVar 0) (eC (.str "lefts"))) (eVar 3))) (sCons (sIf (eT (e2 kGt (eVar 4) (eC (.int 0)))) (sCons (sAsg (e2 kDiv (eVar 4) (eVar 1)) (gIx (e2 kDGet (eVar 0) (eC (.str "lefts"))) (eVar 3))) (sRet (e2 kMod (eCB kInt (aCons (eVar 4) aNil)) (eVar 1)))) sNil) (sCons (sSet 5 (eCall 2 f__law_mixed (aCons (eCall 2 f__law_mixed (aCons (e2 kIx (e2 kDGet (eVar 0) (eC (.str "cells"))) (eVar 3)) (aCons (eVar 2) aNil))) (aCons (e2 kAdd (eC (.int 40)) (eVar 2)) aNil)))) (sRet (e2 kMod (e2 kDiv (eCB kInt (aCons (e2 kAdd (e2 kMul (eVar 5) (eC (.int M))) (eCall 2 f__law_mixed (aCons (eVar 5) (aCons (e2 kAdd (eC (.int 7)) (eVar 2)) aNil)))) aNil)) (eC (.int 64))) (eVar 1)))))))))
theorem bd_eq : b__law_draw = bd 2147483647 := rfl
theorem bm_ok {M N A C h k g q q1 q2 q3 q4 q5 q6 : Int} (e1 : kMod (.int h) (.int M) st = .ok (.int g) st) (e2' : kMul (.int 2) (.int k) st = .ok (.int q) st) (e3 : kMul (.int q) (.int k) st = .ok (.int q1) st)
    (e4 : kMul (.int g) (.int (A + q1)) st = .ok (.int q2) st) (e5 : kMul (.int C) (.int k) st = .ok (.int q3) st) (e6 : kMod (.int (q2 + q3 + 11)) (.int M) st = .ok (.int q4) st) (e7 : kMul (.int q4) (.int C) st = .ok (.int q5) st) (e8 : kMod (.int q5) (.int N) st = .ok (.int q6) st) : fin (bm M N A C [some (.int h), some (.int k)] st) = .ok (.int q6) st := by
  simp only [bm, fin_rt, fin_nx, fin_exc, x_cons, thenS_nx, thenS_rt, thenS_ct, thenS_exc, x_nil, x_set, x_expr, x_ret, x_if, x_cont, x_asg, x_par, x_par3, x_for, x_loop0, outL_nx, outL_ct, outL_rt, x_raise, x_var, getV_some, x_c, x_e2, x_eT, asB_bl, x_and, x_or, x_not, x_vand, x_vor, x_vnot, x_ifE, x_chain, x_anil, x_acons, x_tup, x_lst, x_lstM, x_call, x_callD, x_CB, x_M0, x_M, x_neg, x_isi, x_iL, x_iT, asL_lst, asT_tup, x_gN, x_gT2, x_lc, x_lcEnd, x_lcEndM, x_lc0, nox_ok, x_yes, k_ii, k_eqS, k_eqI, k_lenL, k_lenT, k_tupL, k_tupT, k_lstT, k_lstS, k_int, at_0, at_1, at_2, at_3, toR_some, k_ixT, k_ixL, k_isNN, k_isNT, isS_S, x_dput, Res.bind_ok, Res.bind_exc, Res.bind_bad, List.getElem?_cons_zero, List.getElem?_cons_succ, List.set_cons_zero, List.set_cons_succ, List.length_cons, List.length_nil, if_true, if_false, Bool.false_eq_true, Bool.not_true, Bool.not_false, cond_true, cond_false, small, Nat.reduceAdd, Nat.reduceLeDiff, decide_true, decide_false, reduceCtorEq, reduceIte, e1, e2', e3, e4, e5, e6, e7, e8]
theorem mixed_ok {h : Int} {k : Nat} (hk : k < 2 ^ 62) : ∃ r : Int, 0 ≤ r ∧ r < 2147483648 ∧ f__law_mixed [.int h, .int k] st = .ok (.int r) st := by
  have p1 : (0 : Int) < 2147483647 := by omega
  have p2 : (0 : Int) < 2147483629 := by omega
  have m0 : 0 ≤ h % 2147483647 := Int.emod_nonneg _ (by omega)
  have m1 : h % 2147483647 < 2147483647 := Int.emod_lt_of_pos _ p1
  have r0 : ∀ z : Int, 0 ≤ z % 2147483629 := fun z => Int.emod_nonneg _ (by omega)
  have r1 : ∀ z : Int, z % 2147483629 < 2147483629 := fun z => Int.emod_lt_of_pos _ p2
  have s0 : ∀ z : Int, 0 ≤ z % 2147483647 := fun z => Int.emod_nonneg _ (by omega)
  have s1 : ∀ z : Int, z % 2147483647 < 2147483647 := fun z => Int.emod_lt_of_pos _ p1
  refine ⟨(h % 2147483647 * (48271 + 2 * (k : Int) * k) + 69621 * k + 11) % 2147483647 * 69621 % 2147483629, r0 _, Int.lt_trans (r1 _) (by omega), ?_⟩
  rw [u__law_mixed, bm_eq]
  exact bm_ok (modP p1) (mulL (by omega) (by omega)) (mulR (by omega) (by omega)) (mulL (by omega) (by omega)) (mulL (by omega) (by omega)) (modP p1) (mulR (by omega) (by omega)) (modP p2)
theorem putAt {a : Nat} : putW (stD cells a) "at" (.int ((a : Int) + 1)) = stD cells (a + 1) := rfl
theorem bd_b {M n a c z y r1 r2 r3 L k q : Int} {cw : List W} {st1 : Store} (g0 : kDGet (.obj 1) (.str "at") st = .ok (.int a) st) (hp : ∀ f, sDPutV (eVar 0) (eC (.str "at")) (e2 kAdd (eVar 2) (eC (.int 1))) [some (.obj 1), some (.int n), some (.int a), none, none, f] st = .ok (.nx [some (.obj 1), some (.int n), some (.int a), none, none, f]) st1)
    (g1 : kDGet (.obj 1) (.str "cells") st1 = .ok (.lst cw) st1) (hL : (cw.length : Int) = L) (g2 : kDGet (.obj 1) (.str "lefts") st1 = .ok (.obj 2) st1) (eC' : kMod (.int a) (.int L) st1 = .ok (.int c) st1) (e1 : kIx (.obj 2) (.int c) st1 = .ok (.int z) st1) (e2' : L2.atI cw c = some (.int y)) (q4 : decide (0 < z) = false)
    (u3 : f__law_mixed [.int y, .int a] st1 = .ok (.int r1) st1) (v3 : f__law_mixed [.int r1, .int (40 + a)] st1 = .ok (.int r2) st1) (w3 : f__law_mixed [.int r2, .int (7 + a)] st1 = .ok (.int r3) st1) (cM : kMul (.int r2) (.int M) st1 = .ok (.int (r2 * M)) st1)
    (eD : kDiv (.int (r2 * M + r3)) (.int 64) st1 = .ok (.int q) st1) (eM' : kMod (.int q) (.int n) st1 = .ok (.int k) st1) : fin (bd M [some (.obj 1), some (.int n), none, none, none, none] st) = .ok (.int k) st1 := by
  simp only [bd, x_cons, x_set, x_e2, x_var, x_c, List.getElem?_cons_zero, getV_some, Res.bind_ok, g0, thenS_nx, List.set_cons_zero, List.set_cons_succ, hp]
  simp only [fin_rt, fin_nx, fin_exc, x_cons, thenS_nx, thenS_rt, thenS_ct, thenS_exc, x_nil, x_set, x_expr, x_ret, x_if, x_cont, x_asg, x_par, x_par3, x_for, x_loop0, outL_nx, outL_ct, outL_rt, x_raise, x_var, getV_some, x_c, x_e2, x_eT, asB_bl, x_and, x_or, x_not, x_vand, x_vor, x_vnot, x_ifE, x_chain, x_anil, x_acons, x_tup, x_lst, x_lstM, x_call, x_callD, x_CB, x_M0, x_M, x_neg, x_isi, x_iL, x_iT, asL_lst, asT_tup, x_gN, x_gT2, x_lc, x_lcEnd, x_lcEndM, x_lc0, nox_ok, x_yes, k_ii, k_eqS, k_eqI, k_lenL, k_lenT, k_tupL, k_tupT, k_lstT, k_lstS, k_int, at_0, at_1, at_2, at_3, toR_some, k_ixT, k_ixL, k_isNN, k_isNT, isS_S, x_dput, Res.bind_ok, Res.bind_exc, Res.bind_bad, List.getElem?_cons_zero, List.getElem?_cons_succ, List.set_cons_zero, List.set_cons_succ, List.length_cons, List.length_nil, if_true, if_false, Bool.false_eq_true, Bool.not_true, Bool.not_false, cond_true, cond_false, small, Nat.reduceAdd, Nat.reduceLeDiff, decide_true, decide_false, reduceCtorEq, reduceIte, g1, hL, eC', g2, e1, e2', q4, u3, v3, w3, cM, eD, eM']
theorem draw_ok {n : Nat} (h : SV P cells B st) (hB : B < 2 ^ 60) (hn : 0 < n) (hn2 : n < 1000) : ∃ (k : Nat) (st' : Store), k < n ∧ SV P cells (B + 1) st' ∧ (Mv st st' ∧ st'.length = st.length) ∧ f__law_draw [.obj 1, .int n] st = .ok (.int k) st' := by
  obtain ⟨M, hM⟩ : ∃ M : Int, M = 2147483647 := ⟨_, rfl⟩
  obtain ⟨a, l, h1, h2, h3, h4⟩ := h.ex
  have hl1 : 1 < st.length := (List.getElem?_eq_some_iff.mp h1).1
  have hl2 : 2 < st.length := (List.getElem?_eq_some_iff.mp h2).1
  have hp := h.pos
  have len1 : ((stD cells a).length < 1000) = True := by simp [stD]
  have t0 : Grew [.tab P tQ] (st.set 1 (.D (stD cells (a + 1)))) := h.tab.set (by simp) rfl
  have a1 : (st.set 1 (.D (stD cells (a + 1))))[1]? = some (.D (stD cells (a + 1))) := List.getElem?_set_self hl1
  have a2 : (st.set 1 (.D (stD cells (a + 1))))[2]? = some (.L (l.map W.int)) := by rw [List.getElem?_set_ne (by decide)]; exact h2
  have g0 : kDGet (.obj 1) (.str "at") st = .ok (.int a) st := by rw [dget h1]; rfl
  have g1 : kDGet (.obj 1) (.str "cells") (st.set 1 (.D (stD cells (a + 1)))) = .ok (.lst (cells.map W.int)) (st.set 1 (.D (stD cells (a + 1)))) := by rw [dget a1]; rfl
  have g2 : kDGet (.obj 1) (.str "lefts") (st.set 1 (.D (stD cells (a + 1)))) = .ok (.obj 2) (st.set 1 (.D (stD cells (a + 1)))) := by rw [dget a1]; rfl
  have q1 : decide ((0 : Int) < ((cells.map W.int).length : Nat)) = true := decide_eq_true (by simp; omega)
  obtain ⟨c, hc⟩ : ∃ c : Nat, ((a : Int) % ((cells.map W.int).length : Nat)) = (c : Int) ∧ c < cells.length := ⟨a % cells.length, by simp, Nat.mod_lt _ hp⟩
  obtain ⟨hc1, hc2⟩ := hc
  obtain ⟨z, hz⟩ : ∃ z, l[c]? = some z := ⟨l[c]'(by omega), List.getElem?_eq_getElem _⟩
  obtain ⟨y, hy⟩ : ∃ y, cells[c]? = some y := ⟨cells[c], List.getElem?_eq_getElem _⟩
  have e1 : kIx (.obj 2) (.int c) (st.set 1 (.D (stD cells (a + 1)))) = .ok (.int z) (st.set 1 (.D (stD cells (a + 1)))) := by rw [k_ixO a2, at_nat, List.getElem?_map, hz]; rfl
  have e2' : L2.atI (cells.map W.int) (c : Int) = some (.int y) := by rw [at_nat, List.getElem?_map, hy]; rfl
  have q2 : decide ((0 : Int) < (n : Int)) = true := decide_eq_true (by omega)
  have q3 : decide ((0 : Int) < (n : Int) ∧ (n : Int) < 1073741824) = true := decide_eq_true (by omega)
  have mv1 : Mv st (st.set 1 (.D (stD cells (a + 1)))) := fun i m hi e => by rw [List.getElem?_set_ne (by omega)]; exact e
  by_cases hzp : 0 < z
  · have q4 : decide (0 < z) = true := decide_eq_true hzp
    have e5 : L2.ixN (l.map W.int).length (c : Int) = some c := by
      unfold L2.ixN
      rw [if_pos (Int.natCast_nonneg c), if_pos (by simp; omega)]
      simp
    have e6 : gIx (e2 kDGet (eVar 0) (eC (.str "lefts"))) (eVar 3) (.int (z / n)) [some (.obj 1), some (.int n), some (.int a), some (.int c), some (.int z), none] (st.set 1 (.D (stD cells (a + 1)))) = .ok [some (.obj 1), some (.int n), some (.int a), some (.int c), some (.int z), none] ((st.set 1 (.D (stD cells (a + 1)))).set 2 (.L ((l.map W.int).set c (.int (z / n))))) := by
      unfold gIx
      simp only [fin_rt, fin_nx, fin_exc, x_cons, thenS_nx, thenS_rt, thenS_ct, thenS_exc, x_nil, x_set, x_expr, x_ret, x_if, x_cont, x_asg, x_par, x_par3, x_for, x_loop0, outL_nx, outL_ct, outL_rt, x_raise, x_var, getV_some, x_c, x_e2, x_eT, asB_bl, x_and, x_or, x_not, x_vand, x_vor, x_vnot, x_ifE, x_chain, x_anil, x_acons, x_tup, x_lst, x_lstM, x_call, x_callD, x_CB, x_M0, x_M, x_neg, x_isi, x_iL, x_iT, asL_lst, asT_tup, x_gN, x_gT2, x_lc, x_lcEnd, x_lcEndM, x_lc0, nox_ok, x_yes, k_ii, k_eqS, k_eqI, k_lenL, k_lenT, k_tupL, k_tupT, k_lstT, k_lstS, k_int, at_0, at_1, at_2, at_3, toR_some, k_ixT, k_ixL, k_isNN, k_isNT, isS_S, x_dput, Res.bind_ok, Res.bind_exc, Res.bind_bad, List.getElem?_cons_zero, List.getElem?_cons_succ, List.set_cons_zero, List.set_cons_succ, List.length_cons, List.length_nil, if_true, if_false, Bool.false_eq_true, Bool.not_true, Bool.not_false, cond_true, cond_false, small, Nat.reduceAdd, Nat.reduceLeDiff, decide_true, decide_false, reduceCtorEq, reduceIte, g2, a2, e5]
    obtain ⟨k, hk1, hk2⟩ : ∃ k : Nat, z % (n : Int) = (k : Int) ∧ k < n := by
      have := Int.emod_nonneg z (b := (n : Int)) (by omega)
      have := Int.emod_lt_of_pos z (b := (n : Int)) (by omega)
      exact ⟨(z % (n : Int)).toNat, by omega, by omega⟩
    refine ⟨k, (st.set 1 (.D (stD cells (a + 1)))).set 2 (.L ((l.set c (z / n)).map W.int)), hk2, ⟨⟨a + 1, l.set c (z / n), ?_, ?_, by simpa using h3, by omega⟩, h.pos, h.len, t0.set (by simp) rfl⟩, ?_, ?_⟩
    · rw [List.getElem?_set_ne (by decide)]; exact a1
    · exact List.getElem?_set_self (by simpa using hl2)
    · exact ⟨fun i m hi e => by rw [List.getElem?_set_ne (by omega)]; exact mv1 i m hi e, by simp⟩
    · rw [u__law_draw, bd_eq, ← hM]
      simp only [bd, fin_rt, fin_nx, fin_exc, x_cons, thenS_nx, thenS_rt, thenS_ct, thenS_exc, x_nil, x_set, x_expr, x_ret, x_if, x_cont, x_asg, x_par, x_par3, x_for, x_loop0, outL_nx, outL_ct, outL_rt, x_raise, x_var, getV_some, x_c, x_e2, x_eT, asB_bl, x_and, x_or, x_not, x_vand, x_vor, x_vnot, x_ifE, x_chain, x_anil, x_acons, x_tup, x_lst, x_lstM, x_call, x_callD, x_CB, x_M0, x_M, x_neg, x_isi, x_iL, x_iT, asL_lst, asT_tup, x_gN, x_gT2, x_lc, x_lcEnd, x_lcEndM, x_lc0, nox_ok, x_yes, k_ii, k_eqS, k_eqI, k_lenL, k_lenT, k_tupL, k_tupT, k_lstT, k_lstS, k_int, at_0, at_1, at_2, at_3, toR_some, k_ixT, k_ixL, k_isNN, k_isNT, isS_S, x_dput, Res.bind_ok, Res.bind_exc, Res.bind_bad, List.getElem?_cons_zero, List.getElem?_cons_succ, List.set_cons_zero, List.set_cons_succ, List.length_cons, List.length_nil, if_true, if_false, Bool.false_eq_true, Bool.not_true, Bool.not_false, cond_true, cond_false, small, Nat.reduceAdd, Nat.reduceLeDiff, decide_true, decide_false, reduceCtorEq, reduceIte, g0, h1, len1, putAt, g1, k_ic, q1, hc1, g2, e1, q4, q3, e6, q2, hk1, List.map_set]
  · have q4 : decide (0 < z) = false := decide_eq_false hzp
    obtain ⟨r1, u1, u2, u3⟩ := mixed_ok (h := y) (k := a) (st := st.set 1 (.D (stD cells (a + 1)))) (by omega)
    obtain ⟨r2, v1, v2, v3⟩ := mixed_ok (h := r1) (k := 40 + a) (st := st.set 1 (.D (stD cells (a + 1)))) (by omega)
    obtain ⟨r3, w1, w2, w3⟩ := mixed_ok (h := r2) (k := 7 + a) (st := st.set 1 (.D (stD cells (a + 1)))) (by omega)
    rw [show ((40 + a : Nat) : Int) = 40 + (a : Int) by omega] at v3
    rw [show ((7 + a : Nat) : Int) = 7 + (a : Int) by omega] at w3
    have cM : kMul (.int r2) (.int M) (st.set 1 (.D (stD cells (a + 1)))) = .ok (.int (r2 * M)) (st.set 1 (.D (stD cells (a + 1)))) := mulL (by omega) (by omega)
    have q5 : decide ((0 : Int) < 64 ∧ (64 : Int) < 1073741824) = true := decide_eq_true (by omega)
    obtain ⟨k, hk1, hk2⟩ : ∃ k : Nat, ((r2 * M + r3) / 64) % (n : Int) = (k : Int) ∧ k < n := by
      have := Int.emod_nonneg ((r2 * M + r3) / 64) (b := (n : Int)) (by omega)
      have := Int.emod_lt_of_pos ((r2 * M + r3) / 64) (b := (n : Int)) (by omega)
      exact ⟨(((r2 * M + r3) / 64) % (n : Int)).toNat, by omega, by omega⟩
    refine ⟨k, st.set 1 (.D (stD cells (a + 1))), hk2, ⟨⟨a + 1, l, a1, a2, h3, by omega⟩, h.pos, h.len, t0⟩, ⟨mv1, by simp⟩, ?_⟩
    rw [u__law_draw, bd_eq, ← hM]
    have eD : kDiv (.int (r2 * M + r3)) (.int 64) (st.set 1 (.D (stD cells (a + 1)))) = .ok (.int ((r2 * M + r3) / 64)) (st.set 1 (.D (stD cells (a + 1)))) := divP (by omega) (by omega)
    have eM' : kMod (.int ((r2 * M + r3) / 64)) (.int n) (st.set 1 (.D (stD cells (a + 1)))) = .ok (.int k) (st.set 1 (.D (stD cells (a + 1)))) := by rw [modP (by omega), hk1]
    have eC' : kMod (.int a) (.int ((cells.map W.int).length : Nat)) (st.set 1 (.D (stD cells (a + 1)))) = .ok (.int c) (st.set 1 (.D (stD cells (a + 1)))) := by rw [modP (of_decide_eq_true q1), hc1]
    exact bd_b g0 (fun f => by simp only [fin_rt, fin_nx, fin_exc, x_cons, thenS_nx, thenS_rt, thenS_ct, thenS_exc, x_nil, x_set, x_expr, x_ret, x_if, x_cont, x_asg, x_par, x_par3, x_for, x_loop0, outL_nx, outL_ct, outL_rt, x_raise, x_var, getV_some, x_c, x_e2, x_eT, asB_bl, x_and, x_or, x_not, x_vand, x_vor, x_vnot, x_ifE, x_chain, x_anil, x_acons, x_tup, x_lst, x_lstM, x_call, x_callD, x_CB, x_M0, x_M, x_neg, x_isi, x_iL, x_iT, asL_lst, asT_tup, x_gN, x_gT2, x_lc, x_lcEnd, x_lcEndM, x_lc0, nox_ok, x_yes, k_ii, k_eqS, k_eqI, k_lenL, k_lenT, k_tupL, k_tupT, k_lstT, k_lstS, k_int, at_0, at_1, at_2, at_3, toR_some, k_ixT, k_ixL, k_isNN, k_isNT, isS_S, x_dput, Res.bind_ok, Res.bind_exc, Res.bind_bad, List.getElem?_cons_zero, List.getElem?_cons_succ, List.set_cons_zero, List.set_cons_succ, List.length_cons, List.length_nil, if_true, if_false, Bool.false_eq_true, Bool.not_true, Bool.not_false, cond_true, cond_false, small, Nat.reduceAdd, Nat.reduceLeDiff, decide_true, decide_false, reduceCtorEq, reduceIte, h1, len1, putAt]) g1 rfl g2 eC' e1 e2' q4 u3 v3 w3 cM eD eM'
theorem begin_ok (P : Addr) (ns : List Int) (hl : ns.length ≤ 63) : ∃ cells st', SV P cells 0 st' ∧ st'.length = 3 ∧ f__law_begin [.scr (ns.map W.int)] [.tab P tQ] = .ok (.obj 1) st' := by
  have dl : ∀ l : List Int, dats (l.map W.int) = some (l.map PyData.int) := by
    intro l
    induction l with
    | nil => rfl
    | cons x l ih => exact dats_cons rfl ih
  have sh : ∀ l : List Int, SeqAt.shaped (.list (l.map PyData.int)) = true := by
    have : ∀ l : List Int, PyData.canLayAll0 (l.map PyData.int) = true ∧ PyData.depthAll (l.map PyData.int) = 0 := by
      intro l
      induction l with
      | nil => exact ⟨rfl, rfl⟩
      | cons n ns ih =>
        constructor
        · rw [List.map_cons]; unfold PyData.canLayAll0; rw [ih.1]; rfl
        · rw [List.map_cons]; unfold PyData.depthAll; rw [ih.2]; rfl
    intro l
    obtain ⟨a, b⟩ := this l
    unfold SeqAt.shaped PyData.canLay0 PyData.depth
    rw [a, b]
    rfl
  have e1 : ∀ st, kEqD true (.scr (ns.map W.int)) (.lst []) st = .ok (.bl (!decide (ns = []))) st := fun st => by
    have d1 : datS st (.scr (ns.map W.int)) = some (.list (ns.map PyData.int)) := by
      show dat (.scr (ns.map W.int)) = _
      unfold dat
      rw [dl]
      rfl
    have d2 : datS st (.lst []) = some (.list []) := rfl
    unfold kEqD
    rw [d1, d2]
    have := sh []
    simp only [List.map_nil] at this
    simp only [sh ns, this, Bool.and_self, if_true, cond_true]
    cases ns with
    | nil => rfl
    | cons x l => simp [PyData.eqv, PyData.eqvAll]
  have key : ∀ cells : List Int, 0 < cells.length → cells.length ≤ 63 → ∃ st', SV P cells 0 st' ∧ st'.length = 3 ∧ eDisp ["cells", "lefts", "at"] (aCons (eVar 1) (aCons (eLc true (iL (eVar 1)) (gN 2) bYes (eIf (eT (e2 kGe (eVar 2) (e2 kPow (eC (.int 10)) (eC (.int 18))))) (eVar 2) (eC (.int 0)))) (aCons (eC (.int 0)) aNil))) [some (.scr (ns.map W.int)), some (.lst (cells.map W.int)), none] [.tab P tQ] = .ok (.obj 1) st' := fun cells h1 h2 => by
    have m := lc_map W.int (fun x : Int => W.int (if 10 ^ 18 ≤ x then x else 0)) [some (.scr (ns.map W.int)), some (.lst (cells.map W.int)), none] 2 (eIf (eT (e2 kGe (eVar 2) (e2 kPow (eC (.int 10)) (eC (.int 18))))) (eVar 2) (eC (.int 0))) ([.tab P tQ] ++ [.D []]) cells [] (fun x _ => by
      have q : decide ((0 : Int) ≤ 18 ∧ (18 : Int) ≤ 1000000 ∧ (10 : Int).natAbs < 2 ^ 64) = true := by decide
      by_cases hx : (10 : Int) ^ (18 : Int).toNat ≤ x
      · have hx2 : (10 : Int) ^ 18 ≤ x := hx
        simp only [fin_rt, fin_nx, fin_exc, x_cons, thenS_nx, thenS_rt, thenS_ct, thenS_exc, x_nil, x_set, x_expr, x_ret, x_if, x_cont, x_asg, x_par, x_par3, x_for, x_loop0, outL_nx, outL_ct, outL_rt, x_raise, x_var, getV_some, x_c, x_e2, x_eT, asB_bl, x_and, x_or, x_not, x_vand, x_vor, x_vnot, x_ifE, x_chain, x_anil, x_acons, x_tup, x_lst, x_lstM, x_call, x_callD, x_CB, x_M0, x_M, x_neg, x_isi, x_iL, x_iT, asL_lst, asT_tup, x_gN, x_gT2, x_lc, x_lcEnd, x_lcEndM, x_lc0, nox_ok, x_yes, k_ii, k_eqS, k_eqI, k_lenL, k_lenT, k_tupL, k_tupT, k_lstT, k_lstS, k_int, at_0, at_1, at_2, at_3, toR_some, k_ixT, k_ixL, k_isNN, k_isNT, isS_S, x_dput, Res.bind_ok, Res.bind_exc, Res.bind_bad, List.getElem?_cons_zero, List.getElem?_cons_succ, List.set_cons_zero, List.set_cons_succ, List.length_cons, List.length_nil, if_true, if_false, Bool.false_eq_true, Bool.not_true, Bool.not_false, cond_true, cond_false, small, Nat.reduceAdd, Nat.reduceLeDiff, decide_true, decide_false, reduceCtorEq, reduceIte, k_ic, q, decide_eq_true hx, if_pos hx2]
      · have hx2 : ¬ (10 : Int) ^ 18 ≤ x := hx
        simp only [fin_rt, fin_nx, fin_exc, x_cons, thenS_nx, thenS_rt, thenS_ct, thenS_exc, x_nil, x_set, x_expr, x_ret, x_if, x_cont, x_asg, x_par, x_par3, x_for, x_loop0, outL_nx, outL_ct, outL_rt, x_raise, x_var, getV_some, x_c, x_e2, x_eT, asB_bl, x_and, x_or, x_not, x_vand, x_vor, x_vnot, x_ifE, x_chain, x_anil, x_acons, x_tup, x_lst, x_lstM, x_call, x_callD, x_CB, x_M0, x_M, x_neg, x_isi, x_iL, x_iT, asL_lst, asT_tup, x_gN, x_gT2, x_lc, x_lcEnd, x_lcEndM, x_lc0, nox_ok, x_yes, k_ii, k_eqS, k_eqI, k_lenL, k_lenT, k_tupL, k_tupT, k_lstT, k_lstS, k_int, at_0, at_1, at_2, at_3, toR_some, k_ixT, k_ixL, k_isNN, k_isNT, isS_S, x_dput, Res.bind_ok, Res.bind_exc, Res.bind_bad, List.getElem?_cons_zero, List.getElem?_cons_succ, List.set_cons_zero, List.set_cons_succ, List.length_cons, List.length_nil, if_true, if_false, Bool.false_eq_true, Bool.not_true, Bool.not_false, cond_true, cond_false, small, Nat.reduceAdd, Nat.reduceLeDiff, decide_true, decide_false, reduceCtorEq, reduceIte, k_ic, q, decide_eq_false hx, if_neg hx2]) (by simp; omega)
    rw [List.nil_append] at m
    refine ⟨[.tab P tQ, .D (stD cells 0), .L ((cells.map fun x : Int => if 10 ^ 18 ≤ x then x else 0).map W.int)], ⟨⟨0, _, rfl, rfl, by simp, Nat.le_refl _⟩, h1, h2, ⟨_, rfl, rfl⟩⟩, rfl, ?_⟩
    unfold eDisp
    simp only [fin_rt, fin_nx, fin_exc, x_cons, thenS_nx, thenS_rt, thenS_ct, thenS_exc, x_nil, x_set, x_expr, x_ret, x_if, x_cont, x_asg, x_par, x_par3, x_for, x_loop0, outL_nx, outL_ct, outL_rt, x_raise, x_var, getV_some, x_c, x_e2, x_eT, asB_bl, x_and, x_or, x_not, x_vand, x_vor, x_vnot, x_ifE, x_chain, x_anil, x_acons, x_tup, x_lst, x_lstM, x_call, x_callD, x_CB, x_M0, x_M, x_neg, x_isi, x_iL, x_iT, asL_lst, asT_tup, x_gN, x_gT2, x_lc, x_lcEnd, x_lcEndM, x_lc0, nox_ok, x_yes, k_ii, k_eqS, k_eqI, k_lenL, k_lenT, k_tupL, k_tupT, k_lstT, k_lstS, k_int, at_0, at_1, at_2, at_3, toR_some, k_ixT, k_ixL, k_isNN, k_isNT, isS_S, x_dput, Res.bind_ok, Res.bind_exc, Res.bind_bad, List.getElem?_cons_zero, List.getElem?_cons_succ, List.set_cons_zero, List.set_cons_succ, List.length_cons, List.length_nil, if_true, if_false, Bool.false_eq_true, Bool.not_true, Bool.not_false, cond_true, cond_false, small, Nat.reduceAdd, Nat.reduceLeDiff, decide_true, decide_false, reduceCtorEq, reduceIte, m]
    simp only [List.map_map]
    rfl
  cases ns with
  | nil =>
    obtain ⟨st', h1, h3, h2⟩ := key [0] (by decide) (by decide)
    refine ⟨[0], st', h1, h3, ?_⟩
    rw [u__law_begin]
    simp only [b__law_begin, fin_rt, fin_nx, fin_exc, x_cons, thenS_nx, thenS_rt, thenS_ct, thenS_exc, x_nil, x_set, x_expr, x_ret, x_if, x_cont, x_asg, x_par, x_par3, x_for, x_loop0, outL_nx, outL_ct, outL_rt, x_raise, x_var, getV_some, x_c, x_e2, x_eT, asB_bl, x_and, x_or, x_not, x_vand, x_vor, x_vnot, x_ifE, x_chain, x_anil, x_acons, x_tup, x_lst, x_lstM, x_call, x_callD, x_CB, x_M0, x_M, x_neg, x_isi, x_iL, x_iT, asL_lst, asT_tup, x_gN, x_gT2, x_lc, x_lcEnd, x_lcEndM, x_lc0, nox_ok, x_yes, k_ii, k_eqS, k_eqI, k_lenL, k_lenT, k_tupL, k_tupT, k_lstT, k_lstS, k_int, at_0, at_1, at_2, at_3, toR_some, k_ixT, k_ixL, k_isNN, k_isNT, isS_S, x_dput, Res.bind_ok, Res.bind_exc, Res.bind_bad, List.getElem?_cons_zero, List.getElem?_cons_succ, List.set_cons_zero, List.set_cons_succ, List.length_cons, List.length_nil, if_true, if_false, Bool.false_eq_true, Bool.not_true, Bool.not_false, cond_true, cond_false, small, Nat.reduceAdd, Nat.reduceLeDiff, decide_true, decide_false, reduceCtorEq, reduceIte, e1]
    simp only [List.map_cons, List.map_nil] at h2 ⊢
    simp only [fin_rt, fin_nx, fin_exc, x_cons, thenS_nx, thenS_rt, thenS_ct, thenS_exc, x_nil, x_set, x_expr, x_ret, x_if, x_cont, x_asg, x_par, x_par3, x_for, x_loop0, outL_nx, outL_ct, outL_rt, x_raise, x_var, getV_some, x_c, x_e2, x_eT, asB_bl, x_and, x_or, x_not, x_vand, x_vor, x_vnot, x_ifE, x_chain, x_anil, x_acons, x_tup, x_lst, x_lstM, x_call, x_callD, x_CB, x_M0, x_M, x_neg, x_isi, x_iL, x_iT, asL_lst, asT_tup, x_gN, x_gT2, x_lc, x_lcEnd, x_lcEndM, x_lc0, nox_ok, x_yes, k_ii, k_eqS, k_eqI, k_lenL, k_lenT, k_tupL, k_tupT, k_lstT, k_lstS, k_int, at_0, at_1, at_2, at_3, toR_some, k_ixT, k_ixL, k_isNN, k_isNT, isS_S, x_dput, Res.bind_ok, Res.bind_exc, Res.bind_bad, List.getElem?_cons_zero, List.getElem?_cons_succ, List.set_cons_zero, List.set_cons_succ, List.length_cons, List.length_nil, if_true, if_false, Bool.false_eq_true, Bool.not_true, Bool.not_false, cond_true, cond_false, small, Nat.reduceAdd, Nat.reduceLeDiff, decide_true, decide_false, reduceCtorEq, reduceIte, h2]
  | cons x l =>
    obtain ⟨st', h1, h3, h2⟩ := key (x :: l) (by simp) hl
    refine ⟨x :: l, st', h1, h3, ?_⟩
    rw [u__law_begin]
    simp only [b__law_begin, fin_rt, fin_nx, fin_exc, x_cons, thenS_nx, thenS_rt, thenS_ct, thenS_exc, x_nil, x_set, x_expr, x_ret, x_if, x_cont, x_asg, x_par, x_par3, x_for, x_loop0, outL_nx, outL_ct, outL_rt, x_raise, x_var, getV_some, x_c, x_e2, x_eT, asB_bl, x_and, x_or, x_not, x_vand, x_vor, x_vnot, x_ifE, x_chain, x_anil, x_acons, x_tup, x_lst, x_lstM, x_call, x_callD, x_CB, x_M0, x_M, x_neg, x_isi, x_iL, x_iT, asL_lst, asT_tup, x_gN, x_gT2, x_lc, x_lcEnd, x_lcEndM, x_lc0, nox_ok, x_yes, k_ii, k_eqS, k_eqI, k_lenL, k_lenT, k_tupL, k_tupT, k_lstT, k_lstS, k_int, at_0, at_1, at_2, at_3, toR_some, k_ixT, k_ixL, k_isNN, k_isNT, isS_S, x_dput, Res.bind_ok, Res.bind_exc, Res.bind_bad, List.getElem?_cons_zero, List.getElem?_cons_succ, List.set_cons_zero, List.set_cons_succ, List.length_cons, List.length_nil, if_true, if_false, Bool.false_eq_true, Bool.not_true, Bool.not_false, cond_true, cond_false, small, Nat.reduceAdd, Nat.reduceLeDiff, decide_true, decide_false, reduceCtorEq, reduceIte, e1, k_lstS, h2]
end K85
end
section
set_option Elab.async false
set_option linter.all false
set_option maxRecDepth 100000
set_option maxHeartbeats 1000000
/-! M18: drawn pieces. -/
namespace K85
open PySem Vl
variable {P : Addr} {cells : List Int} {B : Nat} {st st' : Store}
/-- one of some -/
theorem of_ok {l : List W} (h : SV P cells B st) (hB : B < 2 ^ 60) (h0 : 0 < l.length) (h1 : l.length < 1000) :
    ∃ (w : W) (st' : Store), w ∈ l ∧ SV P cells (B + 1) st' ∧ (Mv st st' ∧ st'.length = st.length) ∧ f__law_of [.obj 1, .lst l] st = .ok w st' := by
  obtain ⟨k, st1, a1, a2, a3, a4⟩ := draw_ok h hB h0 h1
  refine ⟨l[k], st1, List.getElem_mem a1, a2, a3, ?_⟩
  have e : L2.atI l (k : Int) = some l[k] := by rw [at_nat]; exact List.getElem?_eq_getElem a1
  rw [u__law_of]
  simp only [b__law_of, fin_rt, fin_nx, fin_exc, x_cons, thenS_nx, thenS_rt, thenS_ct, thenS_exc, x_nil, x_set, x_expr, x_ret, x_if, x_cont, x_asg, x_par, x_par3, x_for, x_loop0, outL_nx, outL_ct, outL_rt, x_raise, x_var, getV_some, x_c, x_e2, x_eT, asB_bl, x_and, x_or, x_not, x_vand, x_vor, x_vnot, x_ifE, x_chain, x_anil, x_acons, x_tup, x_lst, x_lstM, x_call, x_callD, x_CB, x_M0, x_M, x_neg, x_isi, x_iL, x_iT, asL_lst, asT_tup, x_gN, x_gT2, x_lc, x_lcEnd, x_lcEndM, x_lc0, nox_ok, x_yes, k_ii, k_eqS, k_eqI, k_lenL, k_lenT, k_tupL, k_tupT, k_lstT, k_lstS, k_int, at_0, at_1, at_2, at_3, toR_some, k_ixT, k_ixL, k_isNN, k_isNT, isS_S, x_dput, Res.bind_ok, Res.bind_exc, Res.bind_bad, List.getElem?_cons_zero, List.getElem?_cons_succ, List.set_cons_zero, List.set_cons_succ, List.length_cons, List.length_nil, if_true, if_false, Bool.false_eq_true, Bool.not_true, Bool.not_false, cond_true, cond_false, small, Nat.reduceAdd, Nat.reduceLeDiff, decide_true, decide_false, reduceCtorEq, reduceIte, a4, e]
/-- a comprehension whose items draw -/
theorem lc_draws {α : Type} (Q : α → Prop) (v : α → W) (e : Env') (i : Nat) (fa : EvE) (C M : Nat)
    (hs : ∀ (w : W) (B : Nat) (st : Store), SV P cells B st → B ≤ M → ∃ x st', Q x ∧ SV P cells (B + C) st' ∧ Mv st st' ∧ fa (e.set i (some w)) st = .ok (v x) st') :
    ∀ (ws : List W) (acc : List W) (B : Nat) (st : Store), SV P cells B st → B + ws.length * C ≤ M → acc.length + ws.length ≤ 900000 →
    ∃ (xs : List α) (st' : Store), xs.length = ws.length ∧ (∀ x ∈ xs, Q x) ∧ SV P cells (B + ws.length * C) st' ∧ Mv st st' ∧ lcLoop (gN i) bYes fa ws acc e st = .ok (acc ++ xs.map v) st'
  | [], acc, B, st, h, _, _ => ⟨[], st, rfl, fun _ z => (by cases z), h.up (by simp), .refl, by simp [x_lc0]⟩
  | w :: ws, acc, B, st, h, hM, hl => by
    simp only [List.length_cons] at hl
    have q : (ws.length + 1) * C = ws.length * C + C := by rw [Nat.add_mul, Nat.one_mul]
    simp only [List.length_cons, q] at hM
    obtain ⟨x, st1, b1, b2, b3, b4⟩ := hs w B st h (by omega)
    obtain ⟨xs, st2, c1, c2, c3, c4, c5⟩ := lc_draws Q v e i fa C M hs ws (acc ++ [v x]) (B + C) st1 b2 (by omega) (by simp; omega)
    have sm : small (v x :: acc) = true := small_len (by simp; omega)
    refine ⟨x :: xs, st2, by simp [c1], fun y hy => ?_, c3.up (by simp only [List.length_cons, q]; omega), b3.trans c4, ?_⟩
    · rcases List.mem_cons.mp hy with rfl | hy
      · exact b1
      · exact c2 y hy
    · rw [x_lcS]
      simp only [x_gN, nox_ok, Res.bind_ok, x_yes, if_true, b4, sm, c5]
      simp
theorem range_ok {n : Nat} {A : EvA} {e : Env'} {st1 : Store} (h : A e st = .ok [.int n] st1) (hn : n ≤ 1000) : iRange A e st = .ok (intsW n) st1 := by
  unfold iRange
  rw [h]
  show (if -1000000 ≤ (n : Int) ∧ (n : Int) ≤ 1000000 then Res.ok (intsW (n : Int).toNat) st1 else .bad) = _
  rw [if_pos ⟨by omega, by omega⟩]
  rfl
theorem intsW_len (n : Nat) : (intsW n).length = n := by simp [intsW]
/-! ### measures: by N, the levels and one more -/
def sP : Nat → Nat | 0 => 1 | 1 => 1 | 2 => 7 | 3 => 8 | _ => 25
def sB : Nat → Nat | 1 => 2 | 2 => 2 | 3 => 8 | _ => 9
def tP : Nat → Nat | 0 => 7 | 1 => 7 | 2 => 34 | 3 => 37 | _ => 115
def tB : Nat → Nat | 1 => 10 | 2 => 10 | 3 => 37 | _ => 40
def dP : Nat → Nat | 0 => 1 | 1 => 1 | 2 => 3 | 3 => 4 | _ => 5
def dB : Nat → Nat | 1 => 2 | 2 => 2 | 3 => 4 | _ => 5
def cP : Nat → Nat | 0 => 5 | 1 => 5 | 2 => 26 | 3 => 30 | _ => 89
def cB : Nat → Nat | 1 => 8 | 2 => 8 | 3 => 29 | _ => 33
structure PG (ks : List Nat) (g br : Bool) (S T D : Nat) (p : Pc) : Prop where
  nm : p.nm
  rd : p.rd
  sz : p.sz ≤ S
  t : p.t.length ≤ T
  d : p.d ≤ D
  isB : br = true → p.isB = true
  chk : ∀ r : Rl, r.ks = ks → (r.br = true → br = true) → (g = true → r.bd = true → r.bh = true) → p.chk r
theorem PG.up {ks : List Nat} {g br : Bool} {S T D S' T' D' : Nat} {p : Pc} (h : PG ks g br S T D p) (h1 : S ≤ S') (h2 : T ≤ T') (h3 : D ≤ D') : PG ks g br S' T' D' p :=
  ⟨h.nm, h.rd, Nat.le_trans h.sz h1, Nat.le_trans h.t h2, Nat.le_trans h.d h3, h.isB, h.chk⟩
theorem PG.any {ks : List Nat} {g : Bool} {S T D : Nat} {p : Pc} (h : PG ks g true S T D p) : PG ks g false S T D p :=
  ⟨h.nm, h.rd, h.sz, h.t, h.d, fun z => (by cases z), fun r h1 _ h3 => h.chk r h1 (fun _ => rfl) h3⟩
variable {ks : List Nat} {g : Bool} {S T D : Nat} {p : Pc}
theorem PG.test {x y : Nat} {hd : Hd} (ht : hd.tests = true) (hx : x < 10) (hy : y < 10) (h : PG ks g true S T D p) : PG ks g true (1 + S) (3 + T) (1 + D) (.pre hd x y p) where
  nm := ⟨hx, hy, h.nm⟩
  rd := ⟨h.rd, fun _ => h.isB rfl⟩
  sz := by have := h.sz; simp only [Pc.sz]; omega
  t := by have := h.t; simp only [Pc.t, List.length_cons]; omega
  d := by have := h.d; simp only [Pc.d]; omega
  isB := fun _ => rfl
  chk := fun r h1 h2 h3 => by
    refine ⟨⟨trivial, fun _ => rfl, fun _ => ⟨rfl, fun z => by cases z⟩⟩, h.chk _ h1 (fun _ => rfl) fun q1 q2 => ?_⟩
    show (r.bh || !hd.tests) = true
    rw [h3 q1 q2]; rfl
theorem PG.step {x y : Nat} {hd : Hd} (ht : hd.tests = false) (hx : x < 10) (hy : y < 10) (h : PG ks true false S T D p) : PG ks g true (1 + S) (3 + T) (1 + D) (.pre hd x y p) where
  nm := ⟨hx, hy, h.nm⟩
  rd := ⟨h.rd, fun z => by rw [ht] at z; cases z⟩
  sz := by have := h.sz; simp only [Pc.sz]; omega
  t := by have := h.t; simp only [Pc.t, List.length_cons]; omega
  d := by have := h.d; simp only [Pc.d]; omega
  isB := fun _ => rfl
  chk := fun r h1 h2 h3 => by
    refine ⟨⟨trivial, fun _ => rfl, fun _ => ⟨rfl, fun z => by cases z⟩⟩, h.chk _ h1 (fun z => ?_) fun q1 q2 => ?_⟩
    · have z' : hd.tests = true := z
      rw [ht] at z'; cases z'
    · show (r.bh || !hd.tests) = true
      rw [ht]; simp
theorem PG.wait (h : PG ks true false S T D p) : PG ks g true (1 + S) (3 + T) (1 + D) (.wait p) where
  nm := h.nm
  rd := h.rd
  sz := by have := h.sz; simp only [Pc.sz]; omega
  t := by have := h.t; simp only [Pc.t, List.length_cons]; omega
  d := by have := h.d; simp only [Pc.d]; omega
  isB := fun _ => rfl
  chk := fun r h1 h2 h3 => by
    refine ⟨⟨trivial, fun _ => rfl, fun _ => ⟨rfl, fun z => by cases z⟩⟩, h.chk _ h1 (fun z => by cases z) fun q1 q2 => ?_⟩
    show (r.bh || true) = true
    simp
theorem PG.new {x : Nat} (hx : x < 10) (h : PG ks g false S T D p) : PG ks g false (1 + S) (2 + T) (1 + D) (.nw x p) where
  nm := ⟨hx, h.nm⟩
  rd := h.rd
  sz := by have := h.sz; simp only [Pc.sz]; omega
  t := by have := h.t; simp only [Pc.t, List.length_cons]; omega
  d := by have := h.d; simp only [Pc.d]; omega
  isB := fun z => by cases z
  chk := fun r h1 h2 h3 => by
    refine ⟨⟨trivial, fun z => (by cases h2 z), fun _ => ⟨rfl, fun z => by cases z⟩⟩, h.chk _ h1 (fun z => by cases z) fun q1 q2 => ?_⟩
    show (r.bh || false) = true
    rw [h3 q1 q2]; rfl
theorem PG.stop (hS : 1 ≤ S) (hT : 2 ≤ T) (hD : 1 ≤ D) : PG ks g false S T D (.sum true []) where
  nm := trivial
  rd := ⟨trivial, Nat.zero_le _⟩
  sz := by simpa [Pc.sz, Pc.szl] using hS
  t := by simpa [Pc.t, Pc.sepT] using hT
  d := by simpa [Pc.d, Pc.dl] using hD
  isB := fun z => by cases z
  chk := fun r h1 h2 h3 => ⟨⟨by simp [Pc.shp], fun z => (by cases h2 z), fun _ => ⟨rfl, fun z => by cases z⟩⟩, trivial⟩
theorem PG.call {k : Nat} {ns : List Nat} (hk : ks[k]? = some ns.length) (hk2 : k < 10) (hl : ns.length ≤ 3) (hn : ∀ n ∈ ns, n < 10) (hS : 1 ≤ S) (hT : 7 ≤ T) (hD : 1 ≤ D) : PG ks true false S T D (.call k ns) where
  nm := ⟨hk2, hn⟩
  rd := trivial
  sz := by simpa [Pc.sz] using hS
  t := by simp [Pc.t]; omega
  d := by simpa [Pc.d] using hD
  isB := fun z => by cases z
  chk := fun r h1 h2 h3 => ⟨by rw [h1]; exact ⟨hk, by omega⟩, fun z => (by cases h2 z), fun q => ⟨rfl, fun _ => h3 rfl q⟩⟩
theorem sums (s : Str) : ∀ l : List Pc, (∀ p ∈ l, p.sz ≤ S ∧ p.t.length ≤ T ∧ p.d ≤ D) → Pc.szl l ≤ l.length * S ∧ (Pc.restT s l).length ≤ l.length * (T + 1) ∧ Pc.dl l ≤ D
  | [], _ => ⟨by simp [Pc.szl], by simp [Pc.restT], Nat.zero_le _⟩
  | p :: l, h => by
    obtain ⟨a, b, c⟩ := sums s l fun q hq => h q (List.mem_cons_of_mem _ hq)
    obtain ⟨x, y, z⟩ := h p (List.mem_cons_self ..)
    simp only [Pc.szl, Pc.restT, Pc.dl, List.length_cons, List.length_append]
    refine ⟨?_, ?_, Nat.max_le.mpr ⟨z, c⟩⟩
    · rw [Nat.add_mul, Nat.one_mul]; omega
    · rw [Nat.add_mul, Nat.one_mul]; omega
theorem nml_all : ∀ l : List Pc, (∀ p ∈ l, p.nm) → Pc.nml l
  | [], _ => trivial
  | p :: l, h => ⟨h p (List.mem_cons_self ..), nml_all l fun q hq => h q (List.mem_cons_of_mem _ hq)⟩
theorem rdl_all (b : Bool) : ∀ l : List Pc, (∀ p ∈ l, p.rd ∧ (b = true → p.isB = true)) → Pc.rdl b l
  | [], _ => trivial
  | p :: l, h => ⟨(h p (List.mem_cons_self ..)).1, (h p (List.mem_cons_self ..)).2, rdl_all b l fun q hq => h q (List.mem_cons_of_mem _ hq)⟩
theorem chkl_all (r : Rl) : ∀ l : List Pc, (∀ p ∈ l, p.chk r) → Pc.chkl l r
  | [], _ => trivial
  | p :: l, h => ⟨h p (List.mem_cons_self ..), chkl_all r l fun q hq => h q (List.mem_cons_of_mem _ hq)⟩
theorem PG.one {l : List Pc} {n : Nat} (hl : l.length ≤ n) (hn : n ≤ 3) (h : ∀ p ∈ l, PG ks g true S T D p) : PG ks g false (1 + 3 * S) (4 + 3 * T) (1 + D) (.sum true l) where
  nm := nml_all l fun p hp => (h p hp).nm
  rd := ⟨rdl_all true l fun p hp => ⟨(h p hp).rd, fun _ => (h p hp).isB rfl⟩, by omega⟩
  sz := by
    have := (sums (S := S) (T := T) (D := D) "+" l fun p hp => ⟨(h p hp).sz, (h p hp).t, (h p hp).d⟩).1
    have := Nat.mul_le_mul_right S (Nat.le_trans hl hn)
    simp only [Pc.sz]; omega
  t := by
    have := (sums (S := S) (T := T) (D := D) "+" l fun p hp => ⟨(h p hp).sz, (h p hp).t, (h p hp).d⟩).2.1
    have := Nat.mul_le_mul_right (T + 1) (Nat.le_trans hl hn)
    simp only [Pc.t, cond_true, sep_rest, List.length_cons, List.length_append, List.length_drop, List.length_nil]; omega
  d := by
    have := (sums (S := S) (T := T) (D := D) "+" l fun p hp => ⟨(h p hp).sz, (h p hp).t, (h p hp).d⟩).2.2
    simp only [Pc.d]; omega
  isB := fun z => by cases z
  chk := fun r h1 h2 h3 => by
    refine ⟨⟨by show l.length ≤ 20; omega, fun z => (by cases h2 z), fun _ => ⟨rfl, fun z => by cases z⟩⟩, chkl_all _ l fun p hp => (h p hp).chk _ h1 (fun _ => rfl) fun q1 q2 => ?_⟩
    show (r.bh || false) = true
    rw [h3 q1 q2]; rfl
theorem wl_map : ∀ l : List Pc, Pc.wl l = l.map Pc.w
  | [] => rfl
  | p :: l => by rw [Pc.wl, wl_map l]; rfl
theorem nats_ne (ks : List Nat) : kEqD true (.lst (ks.map nat)) (.lst []) st = .ok (.bl (!decide (ks = []))) st := by
  have d1 : datS st (.lst (ks.map nat)) = some (.list (ks.map fun n : Nat => PyData.int n)) := by
    show dat (.lst (ks.map nat)) = _
    unfold dat
    rw [dats_ints]
    rfl
  have d2 : datS st (.lst []) = some (.list []) := rfl
  have sh : SeqAt.shaped (.list (ks.map fun n : Nat => PyData.int n)) = true := by
    have := shaped_ints ks
    unfold SeqAt.shaped PyData.canLay0 PyData.depth at this ⊢
    exact this
  have sh0 : SeqAt.shaped (.list []) = true := by decide +kernel
  unfold kEqD
  rw [d1, d2]
  simp only [sh, sh0, Bool.and_self, if_true, cond_true]
  cases ks with
  | nil => rfl
  | cons x l => simp [PyData.eqv, PyData.eqvAll]
end K85
end
section
set_option Elab.async false
set_option linter.all false
set_option maxRecDepth 100000
set_option maxHeartbeats 1000000
/-! M19: branches and pieces are drawn. -/
namespace K85
open PySem Vl
variable {P : Addr} {cells : List Int} {B : Nat} {st st' : Store} {ks : List Nat}
/-- definitions' widths -/
structure Ks (ks : List Nat) : Prop where
  len : ks.length ≤ 4
  w : ∀ k ∈ ks, 1 ≤ k ∧ k ≤ 3
def BrOk (P : Addr) (cells : List Int) (ks : List Nat) (N : Nat) (F : List W → Store → Res W) : Prop :=
  ∀ (s : Int) (g : Bool) (B : Nat) (st : Store), s + 1 = N → SV P cells B st → B + 1000 * N < 2 ^ 59 → ∃ p st', PG ks g true (sB N) (tB N) (dB N) p ∧ SV P cells (B + cB N) st' ∧ Mv st st' ∧ F [.obj 1, .int s, .lst (ks.map nat), .bl g] st = .ok p.w st'
def PcOk (P : Addr) (cells : List Int) (ks : List Nat) (N : Nat) (F : List W → Store → Res W) : Prop :=
  ∀ (s : Int) (g : Bool) (B : Nat) (st : Store), s + 1 = N → SV P cells B st → B + 1000 * N + 500 < 2 ^ 59 → ∃ p st', PG ks g false (sP N) (tP N) (dP N) p ∧ SV P cells (B + cP N) st' ∧ Mv st st' ∧ F [.obj 1, .int s, .lst (ks.map nat), .bl g] st = .ok p.w st'
theorem draw3 {n : Nat} {i : Int} (hi : i = (n : Int)) (h : SV P cells B st) (hB : B < 2 ^ 60) (h0 : 0 < n) (h1 : n < 1000) :
    ∃ (k : Nat) (st' : Store), k < n ∧ SV P cells (B + 1) st' ∧ Mv st st' ∧ f__law_draw [.obj 1, .int i] st = .ok (.int k) st' := by
  subst hi
  obtain ⟨k, st', a, b, c, d⟩ := draw_ok h hB h0 h1
  exact ⟨k, st', a, b, c.1, d⟩
theorem low {s : Nat → Nat → Prop} (h : ∀ N, N < 5 → s N N) : ∀ N, N ≤ 4 → s N N := fun N hN => h N (by omega)
theorem tab_B : ∀ N, N < 5 → 1 ≤ N → 1 + sP (N - 1) ≤ sB N ∧ 3 + tP (N - 1) ≤ tB N ∧ 1 + dP (N - 1) ≤ dB N ∧ 3 + cP (N - 1) ≤ cB N := by decide
theorem tab_BB : ∀ N, N < 5 → 3 ≤ N → 1 + sB (N - 1) ≤ sB N ∧ 3 + tB (N - 1) ≤ tB N ∧ 1 + dB (N - 1) ≤ dB N ∧ 3 + cB (N - 1) ≤ cB N := by decide
theorem tab_P : ∀ N, N < 5 → 1 ≤ sP N ∧ 7 ≤ tP N ∧ 1 ≤ dP N ∧ 5 ≤ cP N := by decide
theorem tab_PP : ∀ N, N < 5 → 2 ≤ N → 1 + sP (N - 1) ≤ sP N ∧ 2 + tP (N - 1) ≤ tP N ∧ 1 + dP (N - 1) ≤ dP N ∧ 2 + cP (N - 1) ≤ cP N := by decide
theorem tab_PB : ∀ N, N < 5 → 2 ≤ N → sB N ≤ sP N ∧ tB N ≤ tP N ∧ dB N ≤ dP N ∧ 1 + cB N ≤ cP N := by decide
theorem tab_PO : ∀ N, N < 5 → 2 ≤ N → 1 + 3 * sB (N - 1) ≤ sP N ∧ 4 + 3 * tB (N - 1) ≤ tP N ∧ 1 + dB (N - 1) ≤ dP N ∧ 2 + 3 * cB (N - 1) ≤ cP N := by decide
theorem tab_c : ∀ N, N < 5 → cP N ≤ 89 ∧ cB N ≤ 33 := by decide
theorem ix2 {k : Nat} {x y : W} (h : k < 2) : L2.atI [x, y] (k : Int) = some (cond (decide (k = 0)) x y) := by
  rw [at_nat]
  match k, h with
  | 0, _ => rfl
  | 1, _ => rfl
theorem branch_step {rB rP : List W → Store → Res W} {N : Nat} (hN : N < 5) (h1 : 1 ≤ N) (hB : 3 ≤ N → BrOk P cells ks (N - 1) rB) (hP : PcOk P cells ks (N - 1) rP) : BrOk P cells ks N (defF 7 (b__law_branch rB rP)) := by
  intro s g B st hs h hb
  obtain ⟨k, st1, a1, a2, a3, a4⟩ := draw3 (i := 7) (n := 7) rfl h (by omega) (by omega) (by omega)
  obtain ⟨x, st2, b1, b2, b3, b4⟩ := draw3 (i := 10) (n := 10) rfl a2 (by omega) (by omega) (by omega)
  obtain ⟨y, st3, c1, c2, c3, c4⟩ := draw3 (i := 10) (n := 10) rfl b2 (by omega) (by omega) (by omega)
  have m3 : Mv st st3 := (a3.trans b3).trans c3
  obtain ⟨q1, q2, q3, q4⟩ := tab_B N hN h1
  obtain ⟨p, st4, d1, d2, d3, d4⟩ := hP (s - 1) true (B + 1 + 1 + 1) st3 (by omega) c2 (by omega)
  have key : ∀ p' st', (∀ w0 w1 w2 w3 : W, fin (b__law_branch rB rP [some (.obj 1), some (.int s), some (.lst (ks.map nat)), some (.bl g), none, none, none] st) = .ok p' st') → defF 7 (b__law_branch rB rP) [.obj 1, .int s, .lst (ks.map nat), .bl g] st = .ok p' st' := fun p' st' e => e .non .non .non .non
  by_cases t1 : 1 < s ∧ k < 2
  · obtain ⟨p, st4, d1, d2, d3, d4⟩ := hB (by omega) (s - 1) g (B + 1 + 1 + 1) st3 (by omega) c2 (by omega)
    obtain ⟨z1, z2, z3, z4⟩ := tab_BB N hN (by omega)
    have e1 : decide (1 < s) = true := decide_eq_true t1.1
    have e2' : decide ((k : Int) < 2) = true := decide_eq_true (by omega)
    have e3 := ix2 (x := .str "alike") (y := .str "unlike") t1.2
    refine ⟨.pre (cond (decide (k = 0)) .alike .unlike) x y p, st4, (PG.test (by cases (decide (k = 0)) <;> rfl) b1 c1 d1).up z1 z2 z3, d2.up (by omega), m3.trans d3, key _ _ fun _ _ _ _ => ?_⟩
    simp only [b__law_branch, fin_rt, fin_nx, fin_exc, x_cons, thenS_nx, thenS_rt, thenS_ct, thenS_exc, x_nil, x_set, x_expr, x_ret, x_if, x_cont, x_asg, x_par, x_par3, x_for, x_loop0, outL_nx, outL_ct, outL_rt, x_raise, x_var, getV_some, x_c, x_e2, x_eT, asB_bl, x_and, x_or, x_not, x_vand, x_vor, x_vnot, x_ifE, x_chain, x_anil, x_acons, x_tup, x_lst, x_lstM, x_call, x_callD, x_CB, x_M0, x_M, x_neg, x_isi, x_iL, x_iT, asL_lst, asT_tup, x_gN, x_gT2, x_lc, x_lcEnd, x_lcEndM, x_lc0, nox_ok, x_yes, k_ii, k_eqS, k_eqI, k_lenL, k_lenT, k_tupL, k_tupT, k_lstT, k_lstS, k_int, at_0, at_1, at_2, at_3, toR_some, k_ixT, k_ixL, k_isNN, k_isNT, isS_S, x_dput, Res.bind_ok, Res.bind_exc, Res.bind_bad, List.getElem?_cons_zero, List.getElem?_cons_succ, List.set_cons_zero, List.set_cons_succ, List.length_cons, List.length_nil, if_true, if_false, Bool.false_eq_true, Bool.not_true, Bool.not_false, cond_true, cond_false, small, Nat.reduceAdd, Nat.reduceLeDiff, decide_true, decide_false, reduceCtorEq, reduceIte, a4, b4, c4, e1, e2', e3, d4]
    cases (decide (k = 0)) <;> rfl
  · have tt : bAnd (eT (e2 kGt (eVar 1) (eC (.int 1)))) (eT (e2 kLt (eVar 4) (eC (.int 2)))) [some (.obj 1), some (.int s), some (.lst (ks.map nat)), some (.bl g), some (.int k), some (.int x), some (.int y)] st3 = .ok false st3 := by
      by_cases u : 1 < s
      · have e2' : decide ((k : Int) < 2) = false := decide_eq_false (by omega)
        simp only [fin_rt, fin_nx, fin_exc, x_cons, thenS_nx, thenS_rt, thenS_ct, thenS_exc, x_nil, x_set, x_expr, x_ret, x_if, x_cont, x_asg, x_par, x_par3, x_for, x_loop0, outL_nx, outL_ct, outL_rt, x_raise, x_var, getV_some, x_c, x_e2, x_eT, asB_bl, x_and, x_or, x_not, x_vand, x_vor, x_vnot, x_ifE, x_chain, x_anil, x_acons, x_tup, x_lst, x_lstM, x_call, x_callD, x_CB, x_M0, x_M, x_neg, x_isi, x_iL, x_iT, asL_lst, asT_tup, x_gN, x_gT2, x_lc, x_lcEnd, x_lcEndM, x_lc0, nox_ok, x_yes, k_ii, k_eqS, k_eqI, k_lenL, k_lenT, k_tupL, k_tupT, k_lstT, k_lstS, k_int, at_0, at_1, at_2, at_3, toR_some, k_ixT, k_ixL, k_isNN, k_isNT, isS_S, x_dput, Res.bind_ok, Res.bind_exc, Res.bind_bad, List.getElem?_cons_zero, List.getElem?_cons_succ, List.set_cons_zero, List.set_cons_succ, List.length_cons, List.length_nil, if_true, if_false, Bool.false_eq_true, Bool.not_true, Bool.not_false, cond_true, cond_false, small, Nat.reduceAdd, Nat.reduceLeDiff, decide_true, decide_false, reduceCtorEq, reduceIte, decide_eq_true u, e2']
      · simp only [fin_rt, fin_nx, fin_exc, x_cons, thenS_nx, thenS_rt, thenS_ct, thenS_exc, x_nil, x_set, x_expr, x_ret, x_if, x_cont, x_asg, x_par, x_par3, x_for, x_loop0, outL_nx, outL_ct, outL_rt, x_raise, x_var, getV_some, x_c, x_e2, x_eT, asB_bl, x_and, x_or, x_not, x_vand, x_vor, x_vnot, x_ifE, x_chain, x_anil, x_acons, x_tup, x_lst, x_lstM, x_call, x_callD, x_CB, x_M0, x_M, x_neg, x_isi, x_iL, x_iT, asL_lst, asT_tup, x_gN, x_gT2, x_lc, x_lcEnd, x_lcEndM, x_lc0, nox_ok, x_yes, k_ii, k_eqS, k_eqI, k_lenL, k_lenT, k_tupL, k_tupT, k_lstT, k_lstS, k_int, at_0, at_1, at_2, at_3, toR_some, k_ixT, k_ixL, k_isNN, k_isNT, isS_S, x_dput, Res.bind_ok, Res.bind_exc, Res.bind_bad, List.getElem?_cons_zero, List.getElem?_cons_succ, List.set_cons_zero, List.set_cons_succ, List.length_cons, List.length_nil, if_true, if_false, Bool.false_eq_true, Bool.not_true, Bool.not_false, cond_true, cond_false, small, Nat.reduceAdd, Nat.reduceLeDiff, decide_true, decide_false, reduceCtorEq, reduceIte, decide_eq_false u]
    by_cases t2 : k < 4
    · have e1 : decide ((k : Int) < 4) = true := decide_eq_true (by omega)
      refine ⟨.pre .send x y p, st4, (PG.step rfl b1 c1 d1).up q1 q2 q3, d2.up (by omega), m3.trans d3, key _ _ fun _ _ _ _ => ?_⟩
      simp only [b__law_branch, x_cons, x_par3, x_acons, x_anil, x_call, x_var, x_c, List.getElem?_cons_zero, List.getElem?_cons_succ, getV_some, Res.bind_ok, List.length_cons, List.length_nil, Nat.reduceAdd, if_true, a4, b4, c4, thenS_nx, List.set_cons_zero, List.set_cons_succ, x_if, tt]
      simp only [fin_rt, fin_nx, fin_exc, x_cons, thenS_nx, thenS_rt, thenS_ct, thenS_exc, x_nil, x_set, x_expr, x_ret, x_if, x_cont, x_asg, x_par, x_par3, x_for, x_loop0, outL_nx, outL_ct, outL_rt, x_raise, x_var, getV_some, x_c, x_e2, x_eT, asB_bl, x_and, x_or, x_not, x_vand, x_vor, x_vnot, x_ifE, x_chain, x_anil, x_acons, x_tup, x_lst, x_lstM, x_call, x_callD, x_CB, x_M0, x_M, x_neg, x_isi, x_iL, x_iT, asL_lst, asT_tup, x_gN, x_gT2, x_lc, x_lcEnd, x_lcEndM, x_lc0, nox_ok, x_yes, k_ii, k_eqS, k_eqI, k_lenL, k_lenT, k_tupL, k_tupT, k_lstT, k_lstS, k_int, at_0, at_1, at_2, at_3, toR_some, k_ixT, k_ixL, k_isNN, k_isNT, isS_S, x_dput, Res.bind_ok, Res.bind_exc, Res.bind_bad, List.getElem?_cons_zero, List.getElem?_cons_succ, List.set_cons_zero, List.set_cons_succ, List.length_cons, List.length_nil, if_true, if_false, Bool.false_eq_true, Bool.not_true, Bool.not_false, cond_true, cond_false, small, Nat.reduceAdd, Nat.reduceLeDiff, decide_true, decide_false, reduceCtorEq, reduceIte, e1, d4]
      rfl
    · have e1 : decide ((k : Int) < 4) = false := decide_eq_false (by omega)
      by_cases t3 : k < 6
      · have e2' : decide ((k : Int) < 6) = true := decide_eq_true (by omega)
        refine ⟨.pre .take x y p, st4, (PG.step rfl b1 c1 d1).up q1 q2 q3, d2.up (by omega), m3.trans d3, key _ _ fun _ _ _ _ => ?_⟩
        simp only [b__law_branch, x_cons, x_par3, x_acons, x_anil, x_call, x_var, x_c, List.getElem?_cons_zero, List.getElem?_cons_succ, getV_some, Res.bind_ok, List.length_cons, List.length_nil, Nat.reduceAdd, if_true, a4, b4, c4, thenS_nx, List.set_cons_zero, List.set_cons_succ, x_if, tt]
        simp only [fin_rt, fin_nx, fin_exc, x_cons, thenS_nx, thenS_rt, thenS_ct, thenS_exc, x_nil, x_set, x_expr, x_ret, x_if, x_cont, x_asg, x_par, x_par3, x_for, x_loop0, outL_nx, outL_ct, outL_rt, x_raise, x_var, getV_some, x_c, x_e2, x_eT, asB_bl, x_and, x_or, x_not, x_vand, x_vor, x_vnot, x_ifE, x_chain, x_anil, x_acons, x_tup, x_lst, x_lstM, x_call, x_callD, x_CB, x_M0, x_M, x_neg, x_isi, x_iL, x_iT, asL_lst, asT_tup, x_gN, x_gT2, x_lc, x_lcEnd, x_lcEndM, x_lc0, nox_ok, x_yes, k_ii, k_eqS, k_eqI, k_lenL, k_lenT, k_tupL, k_tupT, k_lstT, k_lstS, k_int, at_0, at_1, at_2, at_3, toR_some, k_ixT, k_ixL, k_isNN, k_isNT, isS_S, x_dput, Res.bind_ok, Res.bind_exc, Res.bind_bad, List.getElem?_cons_zero, List.getElem?_cons_succ, List.set_cons_zero, List.set_cons_succ, List.length_cons, List.length_nil, if_true, if_false, Bool.false_eq_true, Bool.not_true, Bool.not_false, cond_true, cond_false, small, Nat.reduceAdd, Nat.reduceLeDiff, decide_true, decide_false, reduceCtorEq, reduceIte, e1, e2', d4]
        rfl
      · have e2' : decide ((k : Int) < 6) = false := decide_eq_false (by omega)
        refine ⟨.wait p, st4, (PG.wait d1).up q1 q2 q3, d2.up (by omega), m3.trans d3, key _ _ fun _ _ _ _ => ?_⟩
        simp only [b__law_branch, x_cons, x_par3, x_acons, x_anil, x_call, x_var, x_c, List.getElem?_cons_zero, List.getElem?_cons_succ, getV_some, Res.bind_ok, List.length_cons, List.length_nil, Nat.reduceAdd, if_true, a4, b4, c4, thenS_nx, List.set_cons_zero, List.set_cons_succ, x_if, tt]
        simp only [fin_rt, fin_nx, fin_exc, x_cons, thenS_nx, thenS_rt, thenS_ct, thenS_exc, x_nil, x_set, x_expr, x_ret, x_if, x_cont, x_asg, x_par, x_par3, x_for, x_loop0, outL_nx, outL_ct, outL_rt, x_raise, x_var, getV_some, x_c, x_e2, x_eT, asB_bl, x_and, x_or, x_not, x_vand, x_vor, x_vnot, x_ifE, x_chain, x_anil, x_acons, x_tup, x_lst, x_lstM, x_call, x_callD, x_CB, x_M0, x_M, x_neg, x_isi, x_iL, x_iT, asL_lst, asT_tup, x_gN, x_gT2, x_lc, x_lcEnd, x_lcEndM, x_lc0, nox_ok, x_yes, k_ii, k_eqS, k_eqI, k_lenL, k_lenT, k_tupL, k_tupT, k_lstT, k_lstS, k_int, at_0, at_1, at_2, at_3, toR_some, k_ixT, k_ixL, k_isNN, k_isNT, isS_S, x_dput, Res.bind_ok, Res.bind_exc, Res.bind_bad, List.getElem?_cons_zero, List.getElem?_cons_succ, List.set_cons_zero, List.set_cons_succ, List.length_cons, List.length_nil, if_true, if_false, Bool.false_eq_true, Bool.not_true, Bool.not_false, cond_true, cond_false, small, Nat.reduceAdd, Nat.reduceLeDiff, decide_true, decide_false, reduceCtorEq, reduceIte, e1, e2', d4]
        rfl
theorem rep1 {n : Nat} (h1 : 1 ≤ n) (h3 : n ≤ 3) : kRepT (.tup [.int 1]) (.int n) st = .ok (.tup ((List.replicate n 1).map nat)) st := by
  match n, h1, h3 with
  | 1, _, _ => rfl
  | 2, _, _ => rfl
  | 3, _, _ => rfl
theorem piece_step {rB rP : List W → Store → Res W} {N : Nat} (hk : Ks ks) (hN : N < 5) (hB : 2 ≤ N → BrOk P cells ks N rB ∧ BrOk P cells ks (N - 1) rB) (hP : 2 ≤ N → PcOk P cells ks (N - 1) rP) : PcOk P cells ks N (defF 9 (b__law_piece rB rP)) := by
  intro s g B st hs h hb
  obtain ⟨q1, q2, q3, q4⟩ := tab_P N hN
  have hne := nats_ne (st := st) ks
  have kl := hk.len
  by_cases t1 : s < 1
  · have e1 : decide (s < 1) = true := decide_eq_true t1
    have none_ : ∀ st1, SV P cells (B + 1) st1 → Mv st st1 → bAnd (eT (eVar 3)) (bAnd (eT (e2 (kEqD true) (eVar 2) (eLst aNil))) (eT (e2 (kEq false) (eCall 2 f__law_draw (aCons (eVar 0) (aCons (eC (.int 2)) aNil))) (eC (.int 0))))) [some (.obj 1), some (.int s), some (.lst (ks.map nat)), some (.bl g), none, none, none, none, none] st = .ok false st1 →
        ∃ p st', PG ks g false (sP N) (tP N) (dP N) p ∧ SV P cells (B + cP N) st' ∧ Mv st st' ∧ defF 9 (b__law_piece rB rP) [.obj 1, .int s, .lst (ks.map nat), .bl g] st = .ok p.w st' := fun st1 v1 m1 e => by
      refine ⟨.sum true [], st1, PG.stop q1 (by omega) q3, v1.up (by omega), m1, ?_⟩
      show fin (b__law_piece rB rP [some (.obj 1), some (.int s), some (.lst (ks.map nat)), some (.bl g), none, none, none, none, none] st) = _
      simp only [b__law_piece, x_cons, x_if, x_eT, x_e2, x_var, x_c, List.getElem?_cons_zero, List.getElem?_cons_succ, getV_some, Res.bind_ok, k_ii, e1, asB_bl, if_true, e, Bool.false_eq_true, if_false]
      simp only [fin_rt, fin_nx, fin_exc, x_cons, thenS_nx, thenS_rt, thenS_ct, thenS_exc, x_nil, x_set, x_expr, x_ret, x_if, x_cont, x_asg, x_par, x_par3, x_for, x_loop0, outL_nx, outL_ct, outL_rt, x_raise, x_var, getV_some, x_c, x_e2, x_eT, asB_bl, x_and, x_or, x_not, x_vand, x_vor, x_vnot, x_ifE, x_chain, x_anil, x_acons, x_tup, x_lst, x_lstM, x_call, x_callD, x_CB, x_M0, x_M, x_neg, x_isi, x_iL, x_iT, asL_lst, asT_tup, x_gN, x_gT2, x_lc, x_lcEnd, x_lcEndM, x_lc0, nox_ok, x_yes, k_ii, k_eqS, k_eqI, k_lenL, k_lenT, k_tupL, k_tupT, k_lstT, k_lstS, k_int, at_0, at_1, at_2, at_3, toR_some, k_ixT, k_ixL, k_isNN, k_isNT, isS_S, x_dput, Res.bind_ok, Res.bind_exc, Res.bind_bad, List.getElem?_cons_zero, List.getElem?_cons_succ, List.set_cons_zero, List.set_cons_succ, List.length_cons, List.length_nil, if_true, if_false, Bool.false_eq_true, Bool.not_true, Bool.not_false, cond_true, cond_false, small, Nat.reduceAdd, Nat.reduceLeDiff, decide_true, decide_false, reduceCtorEq, reduceIte]
      rfl
    cases g with
    | false => exact none_ st (h.up (by omega)) .refl (by simp only [fin_rt, fin_nx, fin_exc, x_cons, thenS_nx, thenS_rt, thenS_ct, thenS_exc, x_nil, x_set, x_expr, x_ret, x_if, x_cont, x_asg, x_par, x_par3, x_for, x_loop0, outL_nx, outL_ct, outL_rt, x_raise, x_var, getV_some, x_c, x_e2, x_eT, asB_bl, x_and, x_or, x_not, x_vand, x_vor, x_vnot, x_ifE, x_chain, x_anil, x_acons, x_tup, x_lst, x_lstM, x_call, x_callD, x_CB, x_M0, x_M, x_neg, x_isi, x_iL, x_iT, asL_lst, asT_tup, x_gN, x_gT2, x_lc, x_lcEnd, x_lcEndM, x_lc0, nox_ok, x_yes, k_ii, k_eqS, k_eqI, k_lenL, k_lenT, k_tupL, k_tupT, k_lstT, k_lstS, k_int, at_0, at_1, at_2, at_3, toR_some, k_ixT, k_ixL, k_isNN, k_isNT, isS_S, x_dput, Res.bind_ok, Res.bind_exc, Res.bind_bad, List.getElem?_cons_zero, List.getElem?_cons_succ, List.set_cons_zero, List.set_cons_succ, List.length_cons, List.length_nil, if_true, if_false, Bool.false_eq_true, Bool.not_true, Bool.not_false, cond_true, cond_false, small, Nat.reduceAdd, Nat.reduceLeDiff, decide_true, decide_false, reduceCtorEq, reduceIte])
    | true =>
      cases hks : ks with
      | nil =>
        subst hks
        exact none_ st (h.up (by omega)) .refl (by simp only [fin_rt, fin_nx, fin_exc, x_cons, thenS_nx, thenS_rt, thenS_ct, thenS_exc, x_nil, x_set, x_expr, x_ret, x_if, x_cont, x_asg, x_par, x_par3, x_for, x_loop0, outL_nx, outL_ct, outL_rt, x_raise, x_var, getV_some, x_c, x_e2, x_eT, asB_bl, x_and, x_or, x_not, x_vand, x_vor, x_vnot, x_ifE, x_chain, x_anil, x_acons, x_tup, x_lst, x_lstM, x_call, x_callD, x_CB, x_M0, x_M, x_neg, x_isi, x_iL, x_iT, asL_lst, asT_tup, x_gN, x_gT2, x_lc, x_lcEnd, x_lcEndM, x_lc0, nox_ok, x_yes, k_ii, k_eqS, k_eqI, k_lenL, k_lenT, k_tupL, k_tupT, k_lstT, k_lstS, k_int, at_0, at_1, at_2, at_3, toR_some, k_ixT, k_ixL, k_isNN, k_isNT, isS_S, x_dput, Res.bind_ok, Res.bind_exc, Res.bind_bad, List.getElem?_cons_zero, List.getElem?_cons_succ, List.set_cons_zero, List.set_cons_succ, List.length_cons, List.length_nil, if_true, if_false, Bool.false_eq_true, Bool.not_true, Bool.not_false, cond_true, cond_false, small, Nat.reduceAdd, Nat.reduceLeDiff, decide_true, decide_false, reduceCtorEq, reduceIte, hne])
      | cons k0 kr =>
        rw [← hks]
        have e2' : kEqD true (.lst (ks.map nat)) (.lst []) st = .ok (.bl true) st := by rw [hne, hks]; simp
        obtain ⟨z, st1, a1, a2, a3, a4⟩ := draw3 (i := 2) (n := 2) rfl h (by omega) (by omega) (by omega)
        by_cases t2 : z = 0
        · have e3 : decide ((z : Int) = 0) = true := decide_eq_true (by omega)
          have hl : 0 < ks.length := by rw [hks]; simp
          obtain ⟨k, st2, b1, b2, b3, b4⟩ := draw3 (i := ((ks.map nat).length : Nat)) (n := ks.length) (by simp) a2 (by omega) hl (by omega)
          obtain ⟨n, hn⟩ : ∃ n, ks[k]? = some n := ⟨ks[k], List.getElem?_eq_getElem b1⟩
          obtain ⟨n1, n2⟩ := hk.w n (List.mem_of_getElem? hn)
          have e4 : L2.atI (ks.map nat) (k : Int) = some (.int n) := by rw [at_nat, List.getElem?_map, hn]; rfl
          obtain ⟨xs, st3, c1, c2, c3, c4, c5⟩ := lc_draws (P := P) (cells := cells) (fun x : Nat => x < 10) nat [some (.obj 1), some (.int s), some (.lst (ks.map nat)), some (.bl true), some (.int k), none, none, none, none] 8 (eCall 2 f__law_draw (aCons (eVar 0) (aCons (eC (.int 10)) aNil))) 1 (2 ^ 59 + 10) (fun w B st v hB => by
            obtain ⟨x, st', d1, d2, d3, d4⟩ := draw3 (i := 10) (n := 10) rfl v (by omega) (by omega) (by omega)
            exact ⟨x, st', d1, d2, d3, by simp only [fin_rt, fin_nx, fin_exc, x_cons, thenS_nx, thenS_rt, thenS_ct, thenS_exc, x_nil, x_set, x_expr, x_ret, x_if, x_cont, x_asg, x_par, x_par3, x_for, x_loop0, outL_nx, outL_ct, outL_rt, x_raise, x_var, getV_some, x_c, x_e2, x_eT, asB_bl, x_and, x_or, x_not, x_vand, x_vor, x_vnot, x_ifE, x_chain, x_anil, x_acons, x_tup, x_lst, x_lstM, x_call, x_callD, x_CB, x_M0, x_M, x_neg, x_isi, x_iL, x_iT, asL_lst, asT_tup, x_gN, x_gT2, x_lc, x_lcEnd, x_lcEndM, x_lc0, nox_ok, x_yes, k_ii, k_eqS, k_eqI, k_lenL, k_lenT, k_tupL, k_tupT, k_lstT, k_lstS, k_int, at_0, at_1, at_2, at_3, toR_some, k_ixT, k_ixL, k_isNN, k_isNT, isS_S, x_dput, Res.bind_ok, Res.bind_exc, Res.bind_bad, List.getElem?_cons_zero, List.getElem?_cons_succ, List.set_cons_zero, List.set_cons_succ, List.length_cons, List.length_nil, if_true, if_false, Bool.false_eq_true, Bool.not_true, Bool.not_false, cond_true, cond_false, small, Nat.reduceAdd, Nat.reduceLeDiff, decide_true, decide_false, reduceCtorEq, reduceIte, d4]⟩) (intsW n) [] (B + 1 + 1) st2 b2 (by rw [intsW_len]; omega) (by rw [intsW_len]; simp; omega)
          rw [intsW_len] at c1 c3
          refine ⟨.call k xs, st3, PG.call (by rw [hn, c1]) (by omega) (by omega) c2 q1 q2 q3, c3.up (by omega), (a3.trans b3).trans c4, ?_⟩
          show fin (b__law_piece rB rP [some (.obj 1), some (.int s), some (.lst (ks.map nat)), some (.bl true), none, none, none, none, none] st) = _
          have r1 : iRange (aCons (e2 kIx (eVar 2) (eVar 4)) aNil) [some (.obj 1), some (.int s), some (.lst (ks.map nat)), some (.bl true), some (.int k), none, none, none, none] st2 = .ok (intsW n) st2 := range_ok (by simp only [fin_rt, fin_nx, fin_exc, x_cons, thenS_nx, thenS_rt, thenS_ct, thenS_exc, x_nil, x_set, x_expr, x_ret, x_if, x_cont, x_asg, x_par, x_par3, x_for, x_loop0, outL_nx, outL_ct, outL_rt, x_raise, x_var, getV_some, x_c, x_e2, x_eT, asB_bl, x_and, x_or, x_not, x_vand, x_vor, x_vnot, x_ifE, x_chain, x_anil, x_acons, x_tup, x_lst, x_lstM, x_call, x_callD, x_CB, x_M0, x_M, x_neg, x_isi, x_iL, x_iT, asL_lst, asT_tup, x_gN, x_gT2, x_lc, x_lcEnd, x_lcEndM, x_lc0, nox_ok, x_yes, k_ii, k_eqS, k_eqI, k_lenL, k_lenT, k_tupL, k_tupT, k_lstT, k_lstS, k_int, at_0, at_1, at_2, at_3, toR_some, k_ixT, k_ixL, k_isNN, k_isNT, isS_S, x_dput, Res.bind_ok, Res.bind_exc, Res.bind_bad, List.getElem?_cons_zero, List.getElem?_cons_succ, List.set_cons_zero, List.set_cons_succ, List.length_cons, List.length_nil, if_true, if_false, Bool.false_eq_true, Bool.not_true, Bool.not_false, cond_true, cond_false, small, Nat.reduceAdd, Nat.reduceLeDiff, decide_true, decide_false, reduceCtorEq, reduceIte, e4]) (by omega)
          rw [List.nil_append] at c5
          simp only [b__law_piece, fin_rt, fin_nx, fin_exc, x_cons, thenS_nx, thenS_rt, thenS_ct, thenS_exc, x_nil, x_set, x_expr, x_ret, x_if, x_cont, x_asg, x_par, x_par3, x_for, x_loop0, outL_nx, outL_ct, outL_rt, x_raise, x_var, getV_some, x_c, x_e2, x_eT, asB_bl, x_and, x_or, x_not, x_vand, x_vor, x_vnot, x_ifE, x_chain, x_anil, x_acons, x_tup, x_lst, x_lstM, x_call, x_callD, x_CB, x_M0, x_M, x_neg, x_isi, x_iL, x_iT, asL_lst, asT_tup, x_gN, x_gT2, x_lc, x_lcEnd, x_lcEndM, x_lc0, nox_ok, x_yes, k_ii, k_eqS, k_eqI, k_lenL, k_lenT, k_tupL, k_tupT, k_lstT, k_lstS, k_int, at_0, at_1, at_2, at_3, toR_some, k_ixT, k_ixL, k_isNN, k_isNT, isS_S, x_dput, Res.bind_ok, Res.bind_exc, Res.bind_bad, List.getElem?_cons_zero, List.getElem?_cons_succ, List.set_cons_zero, List.set_cons_succ, List.length_cons, List.length_nil, if_true, if_false, Bool.false_eq_true, Bool.not_true, Bool.not_false, cond_true, cond_false, small, Nat.reduceAdd, Nat.reduceLeDiff, decide_true, decide_false, reduceCtorEq, reduceIte, e1, e2', a4, e3, b4, r1, c5]
          rfl
        · have e3 : decide ((z : Int) = 0) = false := decide_eq_false (by omega)
          exact none_ st1 a2 a3 (by simp only [fin_rt, fin_nx, fin_exc, x_cons, thenS_nx, thenS_rt, thenS_ct, thenS_exc, x_nil, x_set, x_expr, x_ret, x_if, x_cont, x_asg, x_par, x_par3, x_for, x_loop0, outL_nx, outL_ct, outL_rt, x_raise, x_var, getV_some, x_c, x_e2, x_eT, asB_bl, x_and, x_or, x_not, x_vand, x_vor, x_vnot, x_ifE, x_chain, x_anil, x_acons, x_tup, x_lst, x_lstM, x_call, x_callD, x_CB, x_M0, x_M, x_neg, x_isi, x_iL, x_iT, asL_lst, asT_tup, x_gN, x_gT2, x_lc, x_lcEnd, x_lcEndM, x_lc0, nox_ok, x_yes, k_ii, k_eqS, k_eqI, k_lenL, k_lenT, k_tupL, k_tupT, k_lstT, k_lstS, k_int, at_0, at_1, at_2, at_3, toR_some, k_ixT, k_ixL, k_isNN, k_isNT, isS_S, x_dput, Res.bind_ok, Res.bind_exc, Res.bind_bad, List.getElem?_cons_zero, List.getElem?_cons_succ, List.set_cons_zero, List.set_cons_succ, List.length_cons, List.length_nil, if_true, if_false, Bool.false_eq_true, Bool.not_true, Bool.not_false, cond_true, cond_false, small, Nat.reduceAdd, Nat.reduceLeDiff, decide_true, decide_false, reduceCtorEq, reduceIte, e2', a4, e3])
  · have e1 : decide (s < 1) = false := decide_eq_false t1
    have h2 : 2 ≤ N := by omega
    obtain ⟨k, st1, a1, a2, a3, a4⟩ := draw3 (i := 6) (n := 6) rfl h (by omega) (by omega) (by omega)
    have ctab := tab_c N hN
    by_cases t2 : k < 2
    · have e2' : decide ((k : Int) < 2) = true := decide_eq_true (by omega)
      obtain ⟨z1, z2, z3, z4⟩ := tab_PB N hN h2
      obtain ⟨p, st2, b1, b2, b3, b4⟩ := (hB h2).1 s g (B + 1) st1 hs a2 (by omega)
      refine ⟨p, st2, b1.any.up z1 z2 z3, b2.up (by omega), a3.trans b3, ?_⟩
      show fin (b__law_piece rB rP [some (.obj 1), some (.int s), some (.lst (ks.map nat)), some (.bl g), none, none, none, none, none] st) = _
      simp only [b__law_piece, fin_rt, fin_nx, fin_exc, x_cons, thenS_nx, thenS_rt, thenS_ct, thenS_exc, x_nil, x_set, x_expr, x_ret, x_if, x_cont, x_asg, x_par, x_par3, x_for, x_loop0, outL_nx, outL_ct, outL_rt, x_raise, x_var, getV_some, x_c, x_e2, x_eT, asB_bl, x_and, x_or, x_not, x_vand, x_vor, x_vnot, x_ifE, x_chain, x_anil, x_acons, x_tup, x_lst, x_lstM, x_call, x_callD, x_CB, x_M0, x_M, x_neg, x_isi, x_iL, x_iT, asL_lst, asT_tup, x_gN, x_gT2, x_lc, x_lcEnd, x_lcEndM, x_lc0, nox_ok, x_yes, k_ii, k_eqS, k_eqI, k_lenL, k_lenT, k_tupL, k_tupT, k_lstT, k_lstS, k_int, at_0, at_1, at_2, at_3, toR_some, k_ixT, k_ixL, k_isNN, k_isNT, isS_S, x_dput, Res.bind_ok, Res.bind_exc, Res.bind_bad, List.getElem?_cons_zero, List.getElem?_cons_succ, List.set_cons_zero, List.set_cons_succ, List.length_cons, List.length_nil, if_true, if_false, Bool.false_eq_true, Bool.not_true, Bool.not_false, cond_true, cond_false, small, Nat.reduceAdd, Nat.reduceLeDiff, decide_true, decide_false, reduceCtorEq, reduceIte, e1, a4, e2', b4]
    · have e2' : decide ((k : Int) < 2) = false := decide_eq_false (by omega)
      by_cases t3 : k = 2
      · have e3 : decide ((k : Int) = 2) = true := decide_eq_true (by omega)
        obtain ⟨z1, z2, z3, z4⟩ := tab_PP N hN h2
        obtain ⟨x, st2, b1, b2, b3, b4⟩ := draw3 (i := 10) (n := 10) rfl a2 (by omega) (by omega) (by omega)
        obtain ⟨p, st3, c1, c2, c3, c4⟩ := hP h2 (s - 1) g (B + 1 + 1) st2 (by omega) b2 (by omega)
        refine ⟨.nw x p, st3, (PG.new b1 c1).up z1 z2 z3, c2.up (by omega), (a3.trans b3).trans c3, ?_⟩
        show fin (b__law_piece rB rP [some (.obj 1), some (.int s), some (.lst (ks.map nat)), some (.bl g), none, none, none, none, none] st) = _
        simp only [b__law_piece, fin_rt, fin_nx, fin_exc, x_cons, thenS_nx, thenS_rt, thenS_ct, thenS_exc, x_nil, x_set, x_expr, x_ret, x_if, x_cont, x_asg, x_par, x_par3, x_for, x_loop0, outL_nx, outL_ct, outL_rt, x_raise, x_var, getV_some, x_c, x_e2, x_eT, asB_bl, x_and, x_or, x_not, x_vand, x_vor, x_vnot, x_ifE, x_chain, x_anil, x_acons, x_tup, x_lst, x_lstM, x_call, x_callD, x_CB, x_M0, x_M, x_neg, x_isi, x_iL, x_iT, asL_lst, asT_tup, x_gN, x_gT2, x_lc, x_lcEnd, x_lcEndM, x_lc0, nox_ok, x_yes, k_ii, k_eqS, k_eqI, k_lenL, k_lenT, k_tupL, k_tupT, k_lstT, k_lstS, k_int, at_0, at_1, at_2, at_3, toR_some, k_ixT, k_ixL, k_isNN, k_isNT, isS_S, x_dput, Res.bind_ok, Res.bind_exc, Res.bind_bad, List.getElem?_cons_zero, List.getElem?_cons_succ, List.set_cons_zero, List.set_cons_succ, List.length_cons, List.length_nil, if_true, if_false, Bool.false_eq_true, Bool.not_true, Bool.not_false, cond_true, cond_false, small, Nat.reduceAdd, Nat.reduceLeDiff, decide_true, decide_false, reduceCtorEq, reduceIte, e1, a4, e2', e3, b4, c4]
        rfl
      · have e3 : decide ((k : Int) = 2) = false := decide_eq_false (by omega)
        obtain ⟨m, st2, b1, b2, b3, b4⟩ := draw3 (i := 4) (n := 4) rfl a2 (by omega) (by omega) (by omega)
        by_cases t4 : k < 5 ∨ g = false
        · obtain ⟨z1, z2, z3, z4⟩ := tab_PO N hN h2
          have tt : bOr (eT (e2 kLt (eVar 5) (eC (.int 5)))) (bNot (eT (eVar 3))) [some (.obj 1), some (.int s), some (.lst (ks.map nat)), some (.bl g), none, some (.int k), some (.int m), none, none] st2 = .ok true st2 := by
            by_cases u : k < 5
            · have e5 : decide ((k : Int) < 5) = true := decide_eq_true (by omega)
              simp only [fin_rt, fin_nx, fin_exc, x_cons, thenS_nx, thenS_rt, thenS_ct, thenS_exc, x_nil, x_set, x_expr, x_ret, x_if, x_cont, x_asg, x_par, x_par3, x_for, x_loop0, outL_nx, outL_ct, outL_rt, x_raise, x_var, getV_some, x_c, x_e2, x_eT, asB_bl, x_and, x_or, x_not, x_vand, x_vor, x_vnot, x_ifE, x_chain, x_anil, x_acons, x_tup, x_lst, x_lstM, x_call, x_callD, x_CB, x_M0, x_M, x_neg, x_isi, x_iL, x_iT, asL_lst, asT_tup, x_gN, x_gT2, x_lc, x_lcEnd, x_lcEndM, x_lc0, nox_ok, x_yes, k_ii, k_eqS, k_eqI, k_lenL, k_lenT, k_tupL, k_tupT, k_lstT, k_lstS, k_int, at_0, at_1, at_2, at_3, toR_some, k_ixT, k_ixL, k_isNN, k_isNT, isS_S, x_dput, Res.bind_ok, Res.bind_exc, Res.bind_bad, List.getElem?_cons_zero, List.getElem?_cons_succ, List.set_cons_zero, List.set_cons_succ, List.length_cons, List.length_nil, if_true, if_false, Bool.false_eq_true, Bool.not_true, Bool.not_false, cond_true, cond_false, small, Nat.reduceAdd, Nat.reduceLeDiff, decide_true, decide_false, reduceCtorEq, reduceIte, e5]
            · have e5 : decide ((k : Int) < 5) = false := decide_eq_false (by omega)
              rcases t4 with t4 | t4
              · exact absurd t4 u
              · subst t4
                simp only [fin_rt, fin_nx, fin_exc, x_cons, thenS_nx, thenS_rt, thenS_ct, thenS_exc, x_nil, x_set, x_expr, x_ret, x_if, x_cont, x_asg, x_par, x_par3, x_for, x_loop0, outL_nx, outL_ct, outL_rt, x_raise, x_var, getV_some, x_c, x_e2, x_eT, asB_bl, x_and, x_or, x_not, x_vand, x_vor, x_vnot, x_ifE, x_chain, x_anil, x_acons, x_tup, x_lst, x_lstM, x_call, x_callD, x_CB, x_M0, x_M, x_neg, x_isi, x_iL, x_iT, asL_lst, asT_tup, x_gN, x_gT2, x_lc, x_lcEnd, x_lcEndM, x_lc0, nox_ok, x_yes, k_ii, k_eqS, k_eqI, k_lenL, k_lenT, k_tupL, k_tupT, k_lstT, k_lstS, k_int, at_0, at_1, at_2, at_3, toR_some, k_ixT, k_ixL, k_isNN, k_isNT, isS_S, x_dput, Res.bind_ok, Res.bind_exc, Res.bind_bad, List.getElem?_cons_zero, List.getElem?_cons_succ, List.set_cons_zero, List.set_cons_succ, List.length_cons, List.length_nil, if_true, if_false, Bool.false_eq_true, Bool.not_true, Bool.not_false, cond_true, cond_false, small, Nat.reduceAdd, Nat.reduceLeDiff, decide_true, decide_false, reduceCtorEq, reduceIte, e5]
          obtain ⟨xs, st3, c1, c2, c3, c4, c5⟩ := lc_draws (P := P) (cells := cells) (fun p => PG ks g true (sB (N - 1)) (tB (N - 1)) (dB (N - 1)) p) Pc.w [some (.obj 1), some (.int s), some (.lst (ks.map nat)), some (.bl g), none, some (.int k), some (.int m), none, none] 8 (eCall 4 rB (aCons (eVar 0) (aCons (e2 kSub (eVar 1) (eC (.int 1))) (aCons (eVar 2) (aCons (eVar 3) aNil))))) (cB (N - 1)) (2 ^ 59 - 1000 * (N - 1) - 1) (fun w B st v hB' => by
            obtain ⟨x, st', d1, d2, d3, d4⟩ := (hB h2).2 (s - 1) g B st (by omega) v (by omega)
            exact ⟨x, st', d1, d2, d3, by simp only [fin_rt, fin_nx, fin_exc, x_cons, thenS_nx, thenS_rt, thenS_ct, thenS_exc, x_nil, x_set, x_expr, x_ret, x_if, x_cont, x_asg, x_par, x_par3, x_for, x_loop0, outL_nx, outL_ct, outL_rt, x_raise, x_var, getV_some, x_c, x_e2, x_eT, asB_bl, x_and, x_or, x_not, x_vand, x_vor, x_vnot, x_ifE, x_chain, x_anil, x_acons, x_tup, x_lst, x_lstM, x_call, x_callD, x_CB, x_M0, x_M, x_neg, x_isi, x_iL, x_iT, asL_lst, asT_tup, x_gN, x_gT2, x_lc, x_lcEnd, x_lcEndM, x_lc0, nox_ok, x_yes, k_ii, k_eqS, k_eqI, k_lenL, k_lenT, k_tupL, k_tupT, k_lstT, k_lstS, k_int, at_0, at_1, at_2, at_3, toR_some, k_ixT, k_ixL, k_isNN, k_isNT, isS_S, x_dput, Res.bind_ok, Res.bind_exc, Res.bind_bad, List.getElem?_cons_zero, List.getElem?_cons_succ, List.set_cons_zero, List.set_cons_succ, List.length_cons, List.length_nil, if_true, if_false, Bool.false_eq_true, Bool.not_true, Bool.not_false, cond_true, cond_false, small, Nat.reduceAdd, Nat.reduceLeDiff, decide_true, decide_false, reduceCtorEq, reduceIte, d4]⟩) (intsW m) [] (B + 1 + 1) st2 b2 (by
              rw [intsW_len]
              have := tab_c (N - 1) (by omega)
              have := Nat.mul_le_mul (show m ≤ 3 by omega) this.2
              omega) (by rw [intsW_len]; simp; omega)
          rw [intsW_len] at c1 c3
          rw [List.nil_append] at c5
          have := Nat.mul_le_mul_right (cB (N - 1)) (show m ≤ 3 by omega)
          refine ⟨.sum true xs, st3, (PG.one (n := m) (by omega) (by omega) c2).up z1 z2 z3, c3.up (by omega), (a3.trans b3).trans c4, ?_⟩
          show fin (b__law_piece rB rP [some (.obj 1), some (.int s), some (.lst (ks.map nat)), some (.bl g), none, none, none, none, none] st) = _
          have r1 : iRange (aCons (eVar 6) aNil) [some (.obj 1), some (.int s), some (.lst (ks.map nat)), some (.bl g), none, some (.int k), some (.int m), none, none] st2 = .ok (intsW m) st2 := range_ok (by simp only [fin_rt, fin_nx, fin_exc, x_cons, thenS_nx, thenS_rt, thenS_ct, thenS_exc, x_nil, x_set, x_expr, x_ret, x_if, x_cont, x_asg, x_par, x_par3, x_for, x_loop0, outL_nx, outL_ct, outL_rt, x_raise, x_var, getV_some, x_c, x_e2, x_eT, asB_bl, x_and, x_or, x_not, x_vand, x_vor, x_vnot, x_ifE, x_chain, x_anil, x_acons, x_tup, x_lst, x_lstM, x_call, x_callD, x_CB, x_M0, x_M, x_neg, x_isi, x_iL, x_iT, asL_lst, asT_tup, x_gN, x_gT2, x_lc, x_lcEnd, x_lcEndM, x_lc0, nox_ok, x_yes, k_ii, k_eqS, k_eqI, k_lenL, k_lenT, k_tupL, k_tupT, k_lstT, k_lstS, k_int, at_0, at_1, at_2, at_3, toR_some, k_ixT, k_ixL, k_isNN, k_isNT, isS_S, x_dput, Res.bind_ok, Res.bind_exc, Res.bind_bad, List.getElem?_cons_zero, List.getElem?_cons_succ, List.set_cons_zero, List.set_cons_succ, List.length_cons, List.length_nil, if_true, if_false, Bool.false_eq_true, Bool.not_true, Bool.not_false, cond_true, cond_false, small, Nat.reduceAdd, Nat.reduceLeDiff, decide_true, decide_false, reduceCtorEq, reduceIte]) (by omega)
          simp only [b__law_piece, x_cons, x_if, x_eT, x_e2, x_var, x_c, List.getElem?_cons_zero, List.getElem?_cons_succ, getV_some, Res.bind_ok, k_ii, e1, asB_bl, if_true, Bool.false_eq_true, if_false, x_nil, thenS_nx, x_set, x_call, x_acons, x_anil, List.length_cons, List.length_nil, Nat.reduceAdd, a4, List.set_cons_zero, List.set_cons_succ, e2', k_eqI, cond_false, e3, b4, tt]
          simp only [fin_rt, fin_nx, fin_exc, x_cons, thenS_nx, thenS_rt, thenS_ct, thenS_exc, x_nil, x_set, x_expr, x_ret, x_if, x_cont, x_asg, x_par, x_par3, x_for, x_loop0, outL_nx, outL_ct, outL_rt, x_raise, x_var, getV_some, x_c, x_e2, x_eT, asB_bl, x_and, x_or, x_not, x_vand, x_vor, x_vnot, x_ifE, x_chain, x_anil, x_acons, x_tup, x_lst, x_lstM, x_call, x_callD, x_CB, x_M0, x_M, x_neg, x_isi, x_iL, x_iT, asL_lst, asT_tup, x_gN, x_gT2, x_lc, x_lcEnd, x_lcEndM, x_lc0, nox_ok, x_yes, k_ii, k_eqS, k_eqI, k_lenL, k_lenT, k_tupL, k_tupT, k_lstT, k_lstS, k_int, at_0, at_1, at_2, at_3, toR_some, k_ixT, k_ixL, k_isNN, k_isNT, isS_S, x_dput, Res.bind_ok, Res.bind_exc, Res.bind_bad, List.getElem?_cons_zero, List.getElem?_cons_succ, List.set_cons_zero, List.set_cons_succ, List.length_cons, List.length_nil, if_true, if_false, Bool.false_eq_true, Bool.not_true, Bool.not_false, cond_true, cond_false, small, Nat.reduceAdd, Nat.reduceLeDiff, decide_true, decide_false, reduceCtorEq, reduceIte, r1, c5]
          show _ = Res.ok (W.tup [W.str "one", W.tup (Pc.wl xs)]) st3
          rw [wl_map]
        · have hg : g = true := by cases g with | true => rfl | false => exact absurd (Or.inr rfl) t4
          subst hg
          have e5 : decide ((k : Int) < 5) = false := decide_eq_false (by omega)
          have hne2 := nats_ne (st := st2) ks
          cases hks : ks with
          | nil =>
            subst hks
            refine ⟨.sum true [], st2, PG.stop q1 (by omega) q3, b2.up (by omega), a3.trans b3, ?_⟩
            show fin (b__law_piece rB rP [some (.obj 1), some (.int s), some (.lst []), some (.bl true), none, none, none, none, none] st) = _
            simp only [List.map_nil, decide_true, Bool.not_true] at hne2
            simp only [b__law_piece, fin_rt, fin_nx, fin_exc, x_cons, thenS_nx, thenS_rt, thenS_ct, thenS_exc, x_nil, x_set, x_expr, x_ret, x_if, x_cont, x_asg, x_par, x_par3, x_for, x_loop0, outL_nx, outL_ct, outL_rt, x_raise, x_var, getV_some, x_c, x_e2, x_eT, asB_bl, x_and, x_or, x_not, x_vand, x_vor, x_vnot, x_ifE, x_chain, x_anil, x_acons, x_tup, x_lst, x_lstM, x_call, x_callD, x_CB, x_M0, x_M, x_neg, x_isi, x_iL, x_iT, asL_lst, asT_tup, x_gN, x_gT2, x_lc, x_lcEnd, x_lcEndM, x_lc0, nox_ok, x_yes, k_ii, k_eqS, k_eqI, k_lenL, k_lenT, k_tupL, k_tupT, k_lstT, k_lstS, k_int, at_0, at_1, at_2, at_3, toR_some, k_ixT, k_ixL, k_isNN, k_isNT, isS_S, x_dput, Res.bind_ok, Res.bind_exc, Res.bind_bad, List.getElem?_cons_zero, List.getElem?_cons_succ, List.set_cons_zero, List.set_cons_succ, List.length_cons, List.length_nil, if_true, if_false, Bool.false_eq_true, Bool.not_true, Bool.not_false, cond_true, cond_false, small, Nat.reduceAdd, Nat.reduceLeDiff, decide_true, decide_false, reduceCtorEq, reduceIte, e1, a4, e2', e3, b4, e5, hne2]
            rfl
          | cons k0 kr =>
            rw [← hks]
            have e6 : kEqD true (.lst (ks.map nat)) (.lst []) st2 = .ok (.bl true) st2 := by rw [hne2, hks]; simp
            obtain ⟨w1, w2⟩ := hk.w k0 (by rw [hks]; simp)
            have e7 : L2.atI (ks.map nat) 0 = some (.int k0) := by rw [hks]; exact at_0
            refine ⟨.call 0 (List.replicate k0 1), st2, PG.call (by rw [hks]; simp) (by omega) (by simpa using w2) (fun n hn => by rw [List.eq_of_mem_replicate hn]; omega) q1 q2 q3, b2.up (by omega), a3.trans b3, ?_⟩
            show fin (b__law_piece rB rP [some (.obj 1), some (.int s), some (.lst (ks.map nat)), some (.bl true), none, none, none, none, none] st) = _
            simp only [b__law_piece, fin_rt, fin_nx, fin_exc, x_cons, thenS_nx, thenS_rt, thenS_ct, thenS_exc, x_nil, x_set, x_expr, x_ret, x_if, x_cont, x_asg, x_par, x_par3, x_for, x_loop0, outL_nx, outL_ct, outL_rt, x_raise, x_var, getV_some, x_c, x_e2, x_eT, asB_bl, x_and, x_or, x_not, x_vand, x_vor, x_vnot, x_ifE, x_chain, x_anil, x_acons, x_tup, x_lst, x_lstM, x_call, x_callD, x_CB, x_M0, x_M, x_neg, x_isi, x_iL, x_iT, asL_lst, asT_tup, x_gN, x_gT2, x_lc, x_lcEnd, x_lcEndM, x_lc0, nox_ok, x_yes, k_ii, k_eqS, k_eqI, k_lenL, k_lenT, k_tupL, k_tupT, k_lstT, k_lstS, k_int, at_0, at_1, at_2, at_3, toR_some, k_ixT, k_ixL, k_isNN, k_isNT, isS_S, x_dput, Res.bind_ok, Res.bind_exc, Res.bind_bad, List.getElem?_cons_zero, List.getElem?_cons_succ, List.set_cons_zero, List.set_cons_succ, List.length_cons, List.length_nil, if_true, if_false, Bool.false_eq_true, Bool.not_true, Bool.not_false, cond_true, cond_false, small, Nat.reduceAdd, Nat.reduceLeDiff, decide_true, decide_false, reduceCtorEq, reduceIte, e1, a4, e2', e3, b4, e5, e6, e7, rep1 w1 w2]
            rfl
theorem drawn_ok (hk : Ks ks) : ∀ (m N : Nat), N < 5 → (1 ≤ N → 2 * N + 1 ≤ m → BrOk P cells ks N (f__law_branch m)) ∧ (2 * N + 2 ≤ m → PcOk P cells ks N (f__law_piece m))
  | 0, N, _ => ⟨fun _ h => by omega, fun h => by omega⟩
  | m + 1, N, hN => by
    refine ⟨fun h1 h2 => ?_, fun h2 => ?_⟩
    · exact branch_step hN h1 (fun h3 => (drawn_ok hk m (N - 1) (by omega)).1 (by omega) (by omega)) ((drawn_ok hk m (N - 1) (by omega)).2 (by omega))
    · exact piece_step hk hN (fun h3 => ⟨(drawn_ok hk m N hN).1 (by omega) (by omega), (drawn_ok hk m (N - 1) (by omega)).1 (by omega) (by omega)⟩) fun h3 => (drawn_ok hk m (N - 1) (by omega)).2 (by omega)
end K85
end
section
set_option Elab.async false
set_option linter.all false
set_option maxRecDepth 100000
set_option maxHeartbeats 1000000
/-! M20: MAIN is drawn; names are closed. -/
namespace K85
open PySem Vl
variable {P : Addr} {cells : List Int} {B : Nat} {st st' : Store} {ks : List Nat} {S T D : Nat} {p : Pc}
structure MG (ks : List Nat) (S T D : Nat) (p : Pc) : Prop where
  nm : p.nm
  rd : p.rd
  sz : p.sz ≤ S
  t : p.t.length ≤ T
  d : p.d ≤ D
  chk : p.chk ⟨ks, false, false, false⟩
theorem PG.main {g br : Bool} (h : PG ks g br S T D p) : MG ks S T D p := ⟨h.nm, h.rd, h.sz, h.t, h.d, h.chk _ rfl (fun z => by cases z) (fun _ z => by cases z)⟩
theorem MG.up {S' T' D' : Nat} (h : MG ks S T D p) (h1 : S ≤ S') (h2 : T ≤ T') (h3 : D ≤ D') : MG ks S' T' D' p :=
  ⟨h.nm, h.rd, Nat.le_trans h.sz h1, Nat.le_trans h.t h2, Nat.le_trans h.d h3, h.chk⟩
theorem MG.bes {l : List Pc} {n : Nat} (hl : l.length ≤ n) (hn : n ≤ 4) (h : ∀ p ∈ l, MG ks S T D p) : MG ks (1 + n * S) (3 + n * (T + 1)) (1 + D) (.sum false l) where
  nm := nml_all l fun p hp => (h p hp).nm
  rd := ⟨rdl_all false l fun p hp => ⟨(h p hp).rd, fun z => by cases z⟩, by omega⟩
  sz := by
    have := (sums (S := S) (T := T) (D := D) "/" l fun p hp => ⟨(h p hp).sz, (h p hp).t, (h p hp).d⟩).1
    have := Nat.mul_le_mul_right S hl
    simp only [Pc.sz]; omega
  t := by
    have := (sums (S := S) (T := T) (D := D) "/" l fun p hp => ⟨(h p hp).sz, (h p hp).t, (h p hp).d⟩).2.1
    have := Nat.mul_le_mul_right (T + 1) hl
    simp only [Pc.t, cond_false, sep_rest, List.length_cons, List.length_append, List.length_drop, List.length_nil]; omega
  d := by
    have := (sums (S := S) (T := T) (D := D) "/" l fun p hp => ⟨(h p hp).sz, (h p hp).t, (h p hp).d⟩).2.2
    simp only [Pc.d]; omega
  chk := ⟨⟨by show l.length ≤ 4; omega, fun z => (by cases z), fun z => (by cases z)⟩, chkl_all _ l fun p hp => (h p hp).chk⟩
theorem SV.set_ {j : Nat} {m : MO} (h : SV P cells B st) (hj : 3 ≤ j) (hm : m.isTab = false) : SV P cells B (st.set j m) := by
  obtain ⟨a, l, h1, h2, h3, h4⟩ := h.ex
  exact ⟨⟨a, l, by rw [List.getElem?_set_ne (by omega)]; exact h1, by rw [List.getElem?_set_ne (by omega)]; exact h2, h3, h4⟩, h.pos, h.len, h.tab.set (by simp; omega) hm⟩
theorem SV.three (h : SV P cells B st) : 3 ≤ st.length := by
  obtain ⟨a, l, h1, h2, h3, h4⟩ := h.ex
  exact (List.getElem?_eq_some_iff.mp h2).1
def mainT : EvS := sIf (bAnd (eT (e2 (kEq false) (eCall 2 f__law_draw (aCons (eVar 0) (aCons (eC (.int 3)) aNil))) (eC (.int 0)))) (eT (e2 (kEqD true) (eVar 4) (eLst aNil)))) (sAsg (eTup (aCons (eC (.str "beside")) (aCons (eTup (aCons (e2 kIx (eVar 4) (eC (.int 0))) aNil)) aNil))) (gIx (eVar 4) (eC (.int 0)))) sNil
def mainB (F : List W → Store → Res W) (T : EvS) : EvS := (sCons (sIf (eT (e2 (kEq false) (eCall 2 f__law_draw (aCons (eVar 0) (aCons (eC (.int 2)) aNil))) (eC (.int 0)))) (sRet (eCall 4 F (aCons (eVar 0) (aCons (eVar 1) (aCons (eVar 2) (aCons (eC (.bl true)) aNil)))))) sNil) (sCons (sSet 3 (eCall 2 f__law_draw (aCons (eVar 0) (aCons (eC (.int 4)) aNil)))) (sCons (sSet 4 (eLc true (iRange (aCons (eVar 3) aNil)) (gN 5) bYes (eCall 4 F (aCons (eVar 0) (aCons (e2 kSub (eVar 1) (eC (.int 1))) (aCons (eVar 2) (aCons (eC (.bl true)) aNil))))))) (sCons T (sRet (eTup (aCons (eC (.str "beside")) (aCons (eCB kTuple (aCons (eVar 4) aNil)) aNil))))))))
theorem main_eq : b__law_main = mainB (f__law_piece 20) mainT := rfl
theorem main_ok (hk : Ks ks) (h : SV P cells B st) (hB : B < 2 ^ 58) : ∃ p st', MG ks 40 130 8 p ∧ SV P cells (B + 100) st' ∧ Mv st st' ∧ f__law_main [.obj 1, .int 3, .lst (ks.map nat)] st = .ok p.w st' := by
  obtain ⟨z, st1, a1, a2, a3, a4⟩ := draw3 (i := 2) (n := 2) rfl h (by omega) (by omega) (by omega)
  by_cases t1 : z = 0
  · have e1 : decide ((z : Int) = 0) = true := decide_eq_true (by omega)
    obtain ⟨p, st2, b1, b2, b3, b4⟩ := (drawn_ok (P := P) (cells := cells) hk 20 4 (by omega)).2 (by omega) 3 true (B + 1) st1 (by omega) a2 (by omega)
    refine ⟨p, st2, b1.main.up (by decide) (by decide) (by decide), b2.up (by show B + 1 + 89 ≤ _; omega), a3.trans b3, ?_⟩
    rw [u__law_main]
    simp only [b__law_main, fin_rt, fin_nx, fin_exc, x_cons, thenS_nx, thenS_rt, thenS_ct, thenS_exc, x_nil, x_set, x_expr, x_ret, x_if, x_cont, x_asg, x_par, x_par3, x_for, x_loop0, outL_nx, outL_ct, outL_rt, x_raise, x_var, getV_some, x_c, x_e2, x_eT, asB_bl, x_and, x_or, x_not, x_vand, x_vor, x_vnot, x_ifE, x_chain, x_anil, x_acons, x_tup, x_lst, x_lstM, x_call, x_callD, x_CB, x_M0, x_M, x_neg, x_isi, x_iL, x_iT, asL_lst, asT_tup, x_gN, x_gT2, x_lc, x_lcEnd, x_lcEndM, x_lc0, nox_ok, x_yes, k_ii, k_eqS, k_eqI, k_lenL, k_lenT, k_tupL, k_tupT, k_lstT, k_lstS, k_int, at_0, at_1, at_2, at_3, toR_some, k_ixT, k_ixL, k_isNN, k_isNT, isS_S, x_dput, Res.bind_ok, Res.bind_exc, Res.bind_bad, List.getElem?_cons_zero, List.getElem?_cons_succ, List.set_cons_zero, List.set_cons_succ, List.length_cons, List.length_nil, if_true, if_false, Bool.false_eq_true, Bool.not_true, Bool.not_false, cond_true, cond_false, small, Nat.reduceAdd, Nat.reduceLeDiff, decide_true, decide_false, reduceCtorEq, reduceIte, a4, e1, b4]
  · have e1 : decide ((z : Int) = 0) = false := decide_eq_false (by omega)
    obtain ⟨m, st2, b1, b2, b3, b4⟩ := draw3 (i := 4) (n := 4) rfl a2 (by omega) (by omega) (by omega)
    have tb := (drawn_ok (P := P) (cells := cells) hk 20 3 (by omega)).2 (by omega)
    obtain ⟨xs, st3, c1, c2, c3, c4, c5⟩ := lc_draws (P := P) (cells := cells) (fun p => PG ks true false 8 37 4 p) Pc.w [some (.obj 1), some (.int 3), some (.lst (ks.map nat)), some (.int m), none, none] 5 (eCall 4 (f__law_piece 20) (aCons (eVar 0) (aCons (e2 kSub (eVar 1) (eC (.int 1))) (aCons (eVar 2) (aCons (eC (.bl true)) aNil))))) 30 (2 ^ 58 + 100) (fun w B st v hB' => by
      obtain ⟨x, st', d1, d2, d3, d4⟩ := tb (3 - 1) true B st (by omega) v (by omega)
      exact ⟨x, st', d1, d2, d3, by simp only [mainT, fin_rt, fin_nx, fin_exc, x_cons, thenS_nx, thenS_rt, thenS_ct, thenS_exc, x_nil, x_set, x_expr, x_ret, x_if, x_cont, x_asg, x_par, x_par3, x_for, x_loop0, outL_nx, outL_ct, outL_rt, x_raise, x_var, getV_some, x_c, x_e2, x_eT, asB_bl, x_and, x_or, x_not, x_vand, x_vor, x_vnot, x_ifE, x_chain, x_anil, x_acons, x_tup, x_lst, x_lstM, x_call, x_callD, x_CB, x_M0, x_M, x_neg, x_isi, x_iL, x_iT, asL_lst, asT_tup, x_gN, x_gT2, x_lc, x_lcEnd, x_lcEndM, x_lc0, nox_ok, x_yes, k_ii, k_eqS, k_eqI, k_lenL, k_lenT, k_tupL, k_tupT, k_lstT, k_lstS, k_int, at_0, at_1, at_2, at_3, toR_some, k_ixT, k_ixL, k_isNN, k_isNT, isS_S, x_dput, Res.bind_ok, Res.bind_exc, Res.bind_bad, List.getElem?_cons_zero, List.getElem?_cons_succ, List.set_cons_zero, List.set_cons_succ, List.length_cons, List.length_nil, if_true, if_false, Bool.false_eq_true, Bool.not_true, Bool.not_false, cond_true, cond_false, small, Nat.reduceAdd, Nat.reduceLeDiff, decide_true, decide_false, reduceCtorEq, reduceIte, d4]⟩) (intsW m) [] (B + 1 + 1) st2 b2 (by rw [intsW_len]; omega) (by rw [intsW_len]; simp; omega)
    rw [intsW_len] at c1 c3
    rw [List.nil_append] at c5
    have r1 : iRange (aCons (eVar 3) aNil) [some (.obj 1), some (.int 3), some (.lst (ks.map nat)), some (.int m), none, none] st2 = .ok (intsW m) st2 := range_ok (by simp only [fin_rt, fin_nx, fin_exc, x_cons, thenS_nx, thenS_rt, thenS_ct, thenS_exc, x_nil, x_set, x_expr, x_ret, x_if, x_cont, x_asg, x_par, x_par3, x_for, x_loop0, outL_nx, outL_ct, outL_rt, x_raise, x_var, getV_some, x_c, x_e2, x_eT, asB_bl, x_and, x_or, x_not, x_vand, x_vor, x_vnot, x_ifE, x_chain, x_anil, x_acons, x_tup, x_lst, x_lstM, x_call, x_callD, x_CB, x_M0, x_M, x_neg, x_isi, x_iL, x_iT, asL_lst, asT_tup, x_gN, x_gT2, x_lc, x_lcEnd, x_lcEndM, x_lc0, nox_ok, x_yes, k_ii, k_eqS, k_eqI, k_lenL, k_lenT, k_tupL, k_tupT, k_lstT, k_lstS, k_int, at_0, at_1, at_2, at_3, toR_some, k_ixT, k_ixL, k_isNN, k_isNT, isS_S, x_dput, Res.bind_ok, Res.bind_exc, Res.bind_bad, List.getElem?_cons_zero, List.getElem?_cons_succ, List.set_cons_zero, List.set_cons_succ, List.length_cons, List.length_nil, if_true, if_false, Bool.false_eq_true, Bool.not_true, Bool.not_false, cond_true, cond_false, small, Nat.reduceAdd, Nat.reduceLeDiff, decide_true, decide_false, reduceCtorEq, reduceIte]) (by omega)
    have s3 := c3.three
    obtain ⟨y, st4, d1, d2, d3, d4⟩ := draw3 (i := 3) (n := 3) rfl (c3.grew (Grew.refl.push (m := .L (xs.map Pc.w)) rfl)) (by omega) (by omega) (by omega)
    have g4 : st4[st3.length]? = some (.L (xs.map Pc.w)) := d3 _ _ s3 top_get
    have m4 : Mv st st4 := (a3.trans b3).trans (c4.trans ((Grew.refl.push (m := .L (xs.map Pc.w)) rfl).mv.trans d3))
    have fin_ : ∀ (l : List Pc) (st5 : Store), l.length ≤ 3 → (∀ p ∈ l, MG ks 9 41 5 p) → SV P cells (B + 100) st5 → Mv st st5 → st5[st3.length]? = some (.L (l.map Pc.w)) →
        mainT [some (.obj 1), some (.int 3), some (.lst (ks.map nat)), some (.int m), some (.obj st3.length), none] (st3 ++ [.L (xs.map Pc.w)]) = .ok (.nx [some (.obj 1), some (.int 3), some (.lst (ks.map nat)), some (.int m), some (.obj st3.length), none]) st5 →
        ∃ p st', MG ks 40 130 8 p ∧ SV P cells (B + 100) st' ∧ Mv st st' ∧ f__law_main [.obj 1, .int 3, .lst (ks.map nat)] st = .ok p.w st' := fun l st5 h1 h2 h3 h4 h5 h6 => by
      refine ⟨.sum false l, st5, (MG.bes h1 (by omega) h2).up (by omega) (by omega) (by omega), h3, h4, ?_⟩
      rw [u__law_main, main_eq]
      simp only [mainB, fin_rt, fin_nx, fin_exc, x_cons, thenS_nx, thenS_rt, thenS_ct, thenS_exc, x_nil, x_set, x_expr, x_ret, x_if, x_cont, x_asg, x_par, x_par3, x_for, x_loop0, outL_nx, outL_ct, outL_rt, x_raise, x_var, getV_some, x_c, x_e2, x_eT, asB_bl, x_and, x_or, x_not, x_vand, x_vor, x_vnot, x_ifE, x_chain, x_anil, x_acons, x_tup, x_lst, x_lstM, x_call, x_callD, x_CB, x_M0, x_M, x_neg, x_isi, x_iL, x_iT, asL_lst, asT_tup, x_gN, x_gT2, x_lc, x_lcEnd, x_lcEndM, x_lc0, nox_ok, x_yes, k_ii, k_eqS, k_eqI, k_lenL, k_lenT, k_tupL, k_tupT, k_lstT, k_lstS, k_int, at_0, at_1, at_2, at_3, toR_some, k_ixT, k_ixL, k_isNN, k_isNT, isS_S, x_dput, Res.bind_ok, Res.bind_exc, Res.bind_bad, List.getElem?_cons_zero, List.getElem?_cons_succ, List.set_cons_zero, List.set_cons_succ, List.length_cons, List.length_nil, if_true, if_false, Bool.false_eq_true, Bool.not_true, Bool.not_false, cond_true, cond_false, small, Nat.reduceAdd, Nat.reduceLeDiff, decide_true, decide_false, reduceCtorEq, reduceIte, a4, e1, b4, r1, c5, h6, k_tupO h5]
      show _ = Res.ok (W.tup [W.str "beside", W.tup (Pc.wl l)]) st5
      rw [wl_map]
    obtain ⟨ds, e5, e6⟩ := pieces_dat xs "/" (nml_all xs fun p hp => (c2 p hp).nm)
    have e7 : kEqD true (.obj st3.length) (.lst []) st4 = .ok (.bl (!decide (xs = []))) st4 := by
      have d1 : datS st4 (.obj st3.length) = some (.list ds) := by
        unfold datS
        simp only [g4]
        rw [← wl_map, e5]
        rfl
      have d2 : datS st4 (.lst []) = some (.list []) := rfl
      have sm := sums (S := 8) (T := 37) (D := 4) "/" xs fun p hp => ⟨(c2 p hp).sz, (c2 p hp).t, (c2 p hp).d⟩
      have sh : SeqAt.shaped (.list ds) = true := ((GD.lst e6).up (b := 64) (by have := sm.2.2; omega) (Nat.le_refl _)).shaped
      have sh0 : SeqAt.shaped (.list []) = true := by decide +kernel
      unfold kEqD
      rw [d1, d2]
      simp only [sh, sh0, Bool.and_self, if_true, cond_true]
      cases xs with
      | nil =>
        rw [Pc.wl] at e5
        cases e5
        rfl
      | cons x l =>
        cases ds with
        | nil =>
          rw [Pc.wl] at e5
          unfold dats at e5
          split at e5 <;> cases e5
        | cons y z => simp [PyData.eqv, PyData.eqvAll]
    by_cases t2 : y = 0
    · have e8 : decide ((y : Int) = 0) = true := decide_eq_true (by omega)
      cases hx : xs with
      | nil =>
        subst hx
        refine fin_ [] st4 (by simp) (fun p hp => by cases hp) (d2.up (by omega)) m4 g4 ?_
        simp only [decide_true, Bool.not_true] at e7
        simp only [mainT, fin_rt, fin_nx, fin_exc, x_cons, thenS_nx, thenS_rt, thenS_ct, thenS_exc, x_nil, x_set, x_expr, x_ret, x_if, x_cont, x_asg, x_par, x_par3, x_for, x_loop0, outL_nx, outL_ct, outL_rt, x_raise, x_var, getV_some, x_c, x_e2, x_eT, asB_bl, x_and, x_or, x_not, x_vand, x_vor, x_vnot, x_ifE, x_chain, x_anil, x_acons, x_tup, x_lst, x_lstM, x_call, x_callD, x_CB, x_M0, x_M, x_neg, x_isi, x_iL, x_iT, asL_lst, asT_tup, x_gN, x_gT2, x_lc, x_lcEnd, x_lcEndM, x_lc0, nox_ok, x_yes, k_ii, k_eqS, k_eqI, k_lenL, k_lenT, k_tupL, k_tupT, k_lstT, k_lstS, k_int, at_0, at_1, at_2, at_3, toR_some, k_ixT, k_ixL, k_isNN, k_isNT, isS_S, x_dput, Res.bind_ok, Res.bind_exc, Res.bind_bad, List.getElem?_cons_zero, List.getElem?_cons_succ, List.set_cons_zero, List.set_cons_succ, List.length_cons, List.length_nil, if_true, if_false, Bool.false_eq_true, Bool.not_true, Bool.not_false, cond_true, cond_false, small, Nat.reduceAdd, Nat.reduceLeDiff, decide_true, decide_false, reduceCtorEq, reduceIte, d4, e8, e7]
      | cons x xr =>
        have e9 : decide (xs = []) = false := by rw [hx]; simp
        rw [e9] at e7
        have hlen : 0 < xs.length := by rw [hx]; simp
        have i1 : L2.atI (xs.map Pc.w) 0 = some x.w := by rw [hx]; exact at_0
        have i2 : L2.ixN (xs.map Pc.w).length 0 = some 0 := by
          unfold L2.ixN
          rw [if_pos (by omega), if_pos (by simp; omega)]
          rfl
        have i3 := k_ixO (i := 0) g4
        rw [i1, toR_some] at i3
        have hg : ∀ w, gIx (eVar 4) (eC (.int 0)) w [some (.obj 1), some (.int 3), some (.lst (ks.map nat)), some (.int m), some (.obj st3.length), none] st4 = .ok [some (.obj 1), some (.int 3), some (.lst (ks.map nat)), some (.int m), some (.obj st3.length), none] (st4.set st3.length (.L ((xs.map Pc.w).set 0 w))) := fun w => by
          unfold gIx
          simp only [fin_rt, fin_nx, fin_exc, x_cons, thenS_nx, thenS_rt, thenS_ct, thenS_exc, x_nil, x_set, x_expr, x_ret, x_if, x_cont, x_asg, x_par, x_par3, x_for, x_loop0, outL_nx, outL_ct, outL_rt, x_raise, x_var, getV_some, x_c, x_e2, x_eT, asB_bl, x_and, x_or, x_not, x_vand, x_vor, x_vnot, x_ifE, x_chain, x_anil, x_acons, x_tup, x_lst, x_lstM, x_call, x_callD, x_CB, x_M0, x_M, x_neg, x_isi, x_iL, x_iT, asL_lst, asT_tup, x_gN, x_gT2, x_lc, x_lcEnd, x_lcEndM, x_lc0, nox_ok, x_yes, k_ii, k_eqS, k_eqI, k_lenL, k_lenT, k_tupL, k_tupT, k_lstT, k_lstS, k_int, at_0, at_1, at_2, at_3, toR_some, k_ixT, k_ixL, k_isNN, k_isNT, isS_S, x_dput, Res.bind_ok, Res.bind_exc, Res.bind_bad, List.getElem?_cons_zero, List.getElem?_cons_succ, List.set_cons_zero, List.set_cons_succ, List.length_cons, List.length_nil, if_true, if_false, Bool.false_eq_true, Bool.not_true, Bool.not_false, cond_true, cond_false, small, Nat.reduceAdd, Nat.reduceLeDiff, decide_true, decide_false, reduceCtorEq, reduceIte, g4, i2]
        have hlt : st3.length < st4.length := (List.getElem?_eq_some_iff.mp g4).1
        have set0 : (xs.map Pc.w).set 0 (.tup [.str "beside", .tup [x.w]]) = (Pc.sum false [x] :: xr).map Pc.w := by rw [hx]; rfl
        refine fin_ (.sum false [x] :: xr) (st4.set st3.length (.L ((Pc.sum false [x] :: xr).map Pc.w))) (by rw [hx] at c1; simp at c1 ⊢; omega) (fun p hp => ?_) ((d2.up (by omega)).set_ s3 rfl) (fun i mm hi e => ?_) (List.getElem?_set_self hlt) ?_
        · rcases List.mem_cons.mp hp with rfl | hp
          · exact (MG.bes (n := 1) (S := 8) (T := 37) (D := 4) (by simp) (by omega) fun q hq => by
              rw [List.mem_singleton.mp hq]
              exact (c2 x (by rw [hx]; simp)).main).up (by omega) (by omega) (by omega)
          · exact (c2 p (by rw [hx]; exact List.mem_cons_of_mem _ hp)).main.up (by omega) (by omega) (by omega)
        · have hh : st3[i]? = some mm := c4 i mm hi (b3 i mm hi (a3 i mm hi e))
          have : i < st3.length := (List.getElem?_eq_some_iff.mp hh).1
          rw [List.getElem?_set_ne (by omega)]
          exact m4 i mm hi e
        · simp only [mainT, fin_rt, fin_nx, fin_exc, x_cons, thenS_nx, thenS_rt, thenS_ct, thenS_exc, x_nil, x_set, x_expr, x_ret, x_if, x_cont, x_asg, x_par, x_par3, x_for, x_loop0, outL_nx, outL_ct, outL_rt, x_raise, x_var, getV_some, x_c, x_e2, x_eT, asB_bl, x_and, x_or, x_not, x_vand, x_vor, x_vnot, x_ifE, x_chain, x_anil, x_acons, x_tup, x_lst, x_lstM, x_call, x_callD, x_CB, x_M0, x_M, x_neg, x_isi, x_iL, x_iT, asL_lst, asT_tup, x_gN, x_gT2, x_lc, x_lcEnd, x_lcEndM, x_lc0, nox_ok, x_yes, k_ii, k_eqS, k_eqI, k_lenL, k_lenT, k_tupL, k_tupT, k_lstT, k_lstS, k_int, at_0, at_1, at_2, at_3, toR_some, k_ixT, k_ixL, k_isNN, k_isNT, isS_S, x_dput, Res.bind_ok, Res.bind_exc, Res.bind_bad, List.getElem?_cons_zero, List.getElem?_cons_succ, List.set_cons_zero, List.set_cons_succ, List.length_cons, List.length_nil, if_true, if_false, Bool.false_eq_true, Bool.not_true, Bool.not_false, cond_true, cond_false, small, Nat.reduceAdd, Nat.reduceLeDiff, decide_true, decide_false, reduceCtorEq, reduceIte, d4, e8, e7, i3, hg, set0]
    · have e8 : decide ((y : Int) = 0) = false := decide_eq_false (by omega)
      exact fin_ xs st4 (by omega) (fun p hp => (c2 p hp).main.up (by omega) (by omega) (by omega)) (d2.up (by omega)) m4 g4 (by simp only [mainT, fin_rt, fin_nx, fin_exc, x_cons, thenS_nx, thenS_rt, thenS_ct, thenS_exc, x_nil, x_set, x_expr, x_ret, x_if, x_cont, x_asg, x_par, x_par3, x_for, x_loop0, outL_nx, outL_ct, outL_rt, x_raise, x_var, getV_some, x_c, x_e2, x_eT, asB_bl, x_and, x_or, x_not, x_vand, x_vor, x_vnot, x_ifE, x_chain, x_anil, x_acons, x_tup, x_lst, x_lstM, x_call, x_callD, x_CB, x_M0, x_M, x_neg, x_isi, x_iL, x_iT, asL_lst, asT_tup, x_gN, x_gT2, x_lc, x_lcEnd, x_lcEndM, x_lc0, nox_ok, x_yes, k_ii, k_eqS, k_eqI, k_lenL, k_lenT, k_tupL, k_tupT, k_lstT, k_lstS, k_int, at_0, at_1, at_2, at_3, toR_some, k_ixT, k_ixL, k_isNN, k_isNT, isS_S, x_dput, Res.bind_ok, Res.bind_exc, Res.bind_bad, List.getElem?_cons_zero, List.getElem?_cons_succ, List.set_cons_zero, List.set_cons_succ, List.length_cons, List.length_nil, if_true, if_false, Bool.false_eq_true, Bool.not_true, Bool.not_false, cond_true, cond_false, small, Nat.reduceAdd, Nat.reduceLeDiff, decide_true, decide_false, reduceCtorEq, reduceIte, d4, e8])
end K85
end
section
set_option Elab.async false
set_option linter.all false
set_option maxRecDepth 100000
set_option maxHeartbeats 1000000
/-! M21: names are closed. -/
namespace K85
open PySem Vl
variable {P : Addr} {cells : List Int} {B : Nat} {st st' : Store} {ks : List Nat}
def pick (ns bs : List Nat) (x : Nat) : Nat := if x ∈ ns ++ bs then x else ns.headD 0
mutual
def Pc.cl (ns : List Nat) : List Nat → Pc → Pc
  | bs, .sum b l => .sum b (Pc.cll ns bs l)
  | bs, .wait p => .wait (p.cl ns bs)
  | bs, .nw x p => .nw x (p.cl ns (bs ++ [x]))
  | bs, .call k l => .call k (l.map (pick ns bs))
  | bs, .pre .take x y p => .pre .take (pick ns bs x) y (p.cl ns (bs ++ [y]))
  | bs, .pre .send x y p => .pre .send (pick ns bs x) (pick ns bs y) (p.cl ns bs)
  | bs, .pre .alike x y p => .pre .alike (pick ns bs x) (pick ns bs y) (p.cl ns bs)
  | bs, .pre .unlike x y p => .pre .unlike (pick ns bs x) (pick ns bs y) (p.cl ns bs)
def Pc.cll (ns : List Nat) : List Nat → List Pc → List Pc
  | _, [] => []
  | bs, p :: l => p.cl ns bs :: Pc.cll ns bs l
end
theorem pick_lt {ns bs : List Nat} {x : Nat} (hx : x < 10) (h0 : ∀ n ∈ ns, n < 10) : pick ns bs x < 10 := by
  unfold pick
  split
  · exact hx
  · cases ns with
    | nil => simp
    | cons n l => exact h0 n (List.mem_cons_self ..)
theorem pick_in {ns bs : List Nat} {x : Nat} (h0 : ns ≠ []) : pick ns bs x ∈ ns ∨ pick ns bs x ∈ bs := by
  unfold pick
  split
  · rename_i h
    exact List.mem_append.mp h
  · cases ns with
    | nil => exact absurd rfl h0
    | cons n l => exact .inl (List.mem_cons_self ..)
theorem cll_len (ns : List Nat) : ∀ (bs : List Nat) (l : List Pc), (Pc.cll ns bs l).length = l.length
  | _, [] => rfl
  | bs, p :: l => by simp [Pc.cll, cll_len ns bs l]
theorem cl_isB (ns bs : List Nat) : ∀ p : Pc, (p.cl ns bs).isB = p.isB
  | .sum _ _ => rfl
  | .wait _ => rfl
  | .nw _ _ => rfl
  | .call _ _ => rfl
  | .pre .take _ _ _ => rfl
  | .pre .send _ _ _ => rfl
  | .pre .alike _ _ _ => rfl
  | .pre .unlike _ _ _ => rfl
structure CL (p q : Pc) : Prop where
  sz : q.sz = p.sz
  t : q.t.length = p.t.length
  d : q.d = p.d
  nm : p.nm → q.nm
  rd : p.rd → q.rd
  chk : ∀ r, p.chk r → q.chk r
structure CLs (p q : List Pc) : Prop where
  sz : Pc.szl q = Pc.szl p
  t : ∀ s, (Pc.restT s q).length = (Pc.restT s p).length
  d : Pc.dl q = Pc.dl p
  nm : Pc.nml p → Pc.nml q
  rd : ∀ b, Pc.rdl b p → Pc.rdl b q
  chk : ∀ r, Pc.chkl p r → Pc.chkl q r
mutual
theorem cl_same {ns : List Nat} (h0 : ∀ n ∈ ns, n < 10) : ∀ (p : Pc) (bs : List Nat), CL p (p.cl ns bs)
  | .sum b l, bs => by
    have h := cll_same h0 l bs
    refine ⟨by simp only [Pc.cl, Pc.sz, h.sz], ?_, by simp only [Pc.cl, Pc.d, h.d], fun z => h.nm z, fun z => ⟨h.rd b z.1, by rw [cll_len]; exact z.2⟩, fun r z => ⟨⟨?_, z.1.2.1, z.1.2.2⟩, h.chk _ z.2⟩⟩
    · simp only [Pc.cl, Pc.t, sep_rest, List.length_cons, List.length_append, List.length_drop, h.t]
    · show (Pc.cll ns bs l).length ≤ _
      rw [cll_len]; exact z.1.1
  | .wait p, bs => by
    have h := cl_same h0 p bs
    exact ⟨by simp only [Pc.cl, Pc.sz, h.sz], by simp only [Pc.cl, Pc.t, List.length_cons, h.t], by simp only [Pc.cl, Pc.d, h.d], fun z => h.nm z, fun z => h.rd z, fun r z => ⟨z.1, h.chk _ z.2⟩⟩
  | .nw x p, bs => by
    have h := cl_same h0 p (bs ++ [x])
    exact ⟨by simp only [Pc.cl, Pc.sz, h.sz], by simp only [Pc.cl, Pc.t, List.length_cons, h.t], by simp only [Pc.cl, Pc.d, h.d], fun z => ⟨z.1, h.nm z.2⟩, fun z => h.rd z, fun r z => ⟨z.1, h.chk _ z.2⟩⟩
  | .call k l, bs => by
    refine ⟨rfl, by simp [Pc.cl, Pc.t], rfl, fun z => ⟨z.1, fun n hn => ?_⟩, fun z => z, fun r z => ⟨?_, z.2⟩⟩
    · obtain ⟨m, hm, rfl⟩ := List.mem_map.mp hn
      exact pick_lt (z.2 m hm) h0
    · show r.ks[k]? = some (l.map (pick ns bs)).length ∧ (l.map (pick ns bs)).length ≤ 4
      rw [List.length_map]; exact z.1
  | .pre .take x y p, bs => by
    have h := cl_same h0 p (bs ++ [y])
    exact ⟨by simp only [Pc.cl, Pc.sz, h.sz], by simp only [Pc.cl, Pc.t, List.length_cons, h.t], by simp only [Pc.cl, Pc.d, h.d], fun z => ⟨pick_lt z.1 h0, z.2.1, h.nm z.2.2⟩, fun z => ⟨h.rd z.1, fun q => by rw [cl_isB]; exact z.2 q⟩, fun r z => ⟨z.1, h.chk _ z.2⟩⟩
  | .pre .send x y p, bs => by
    have h := cl_same h0 p bs
    exact ⟨by simp only [Pc.cl, Pc.sz, h.sz], by simp only [Pc.cl, Pc.t, List.length_cons, h.t], by simp only [Pc.cl, Pc.d, h.d], fun z => ⟨pick_lt z.1 h0, pick_lt z.2.1 h0, h.nm z.2.2⟩, fun z => ⟨h.rd z.1, fun q => by rw [cl_isB]; exact z.2 q⟩, fun r z => ⟨z.1, h.chk _ z.2⟩⟩
  | .pre .alike x y p, bs => by
    have h := cl_same h0 p bs
    exact ⟨by simp only [Pc.cl, Pc.sz, h.sz], by simp only [Pc.cl, Pc.t, List.length_cons, h.t], by simp only [Pc.cl, Pc.d, h.d], fun z => ⟨pick_lt z.1 h0, pick_lt z.2.1 h0, h.nm z.2.2⟩, fun z => ⟨h.rd z.1, fun q => by rw [cl_isB]; exact z.2 q⟩, fun r z => ⟨z.1, h.chk _ z.2⟩⟩
  | .pre .unlike x y p, bs => by
    have h := cl_same h0 p bs
    exact ⟨by simp only [Pc.cl, Pc.sz, h.sz], by simp only [Pc.cl, Pc.t, List.length_cons, h.t], by simp only [Pc.cl, Pc.d, h.d], fun z => ⟨pick_lt z.1 h0, pick_lt z.2.1 h0, h.nm z.2.2⟩, fun z => ⟨h.rd z.1, fun q => by rw [cl_isB]; exact z.2 q⟩, fun r z => ⟨z.1, h.chk _ z.2⟩⟩
theorem cll_same {ns : List Nat} (h0 : ∀ n ∈ ns, n < 10) : ∀ (l : List Pc) (bs : List Nat), CLs l (Pc.cll ns bs l)
  | [], bs => ⟨rfl, fun _ => rfl, rfl, fun z => z, fun _ z => z, fun _ z => z⟩
  | p :: l, bs => by
    have h := cl_same h0 p bs
    have g := cll_same h0 l bs
    exact ⟨by simp only [Pc.cll, Pc.szl, h.sz, g.sz], fun s => by simp only [Pc.cll, Pc.restT, List.length_cons, List.length_append, h.t, g.t], by simp only [Pc.cll, Pc.dl, h.d, g.d], fun z => ⟨h.nm z.1, g.nm z.2⟩, fun b z => ⟨h.rd z.1, fun q => by rw [cl_isB]; exact z.2.1 q, g.rd b z.2.2⟩, fun r z => ⟨h.chk r z.1, g.chk r z.2⟩⟩
end
mutual
theorem cl_fv {ns : List Nat} (h0 : ns ≠ []) : ∀ (p : Pc) (bs : List Nat) (k : Nat), (p.cl ns bs).fv k → k ∈ ns ∨ k ∈ bs
  | .sum b l, bs, k, h => cll_fv h0 l bs k h
  | .wait p, bs, k, h => cl_fv h0 p bs k h
  | .nw x p, bs, k, h => by
    obtain ⟨h1, h2⟩ := h
    rcases cl_fv h0 p _ k h2 with q | q
    · exact .inl q
    · rcases List.mem_append.mp q with q | q
      · exact .inr q
      · exact absurd (List.mem_singleton.mp q) h1
  | .call n l, bs, k, h => by
    obtain ⟨m, _, rfl⟩ := List.mem_map.mp (h : k ∈ l.map (pick ns bs))
    exact pick_in h0
  | .pre .take x y p, bs, k, h => by
    rcases h with rfl | ⟨h1, h2⟩
    · exact pick_in h0
    · rcases cl_fv h0 p _ k h2 with q | q
      · exact .inl q
      · rcases List.mem_append.mp q with q | q
        · exact .inr q
        · exact absurd (List.mem_singleton.mp q) h1
  | .pre .send x y p, bs, k, h => by
    rcases h with rfl | rfl | h
    · exact pick_in h0
    · exact pick_in h0
    · exact cl_fv h0 p bs k h
  | .pre .alike x y p, bs, k, h => by
    rcases h with rfl | rfl | h
    · exact pick_in h0
    · exact pick_in h0
    · exact cl_fv h0 p bs k h
  | .pre .unlike x y p, bs, k, h => by
    rcases h with rfl | rfl | h
    · exact pick_in h0
    · exact pick_in h0
    · exact cl_fv h0 p bs k h
theorem cll_fv {ns : List Nat} (h0 : ns ≠ []) : ∀ (l : List Pc) (bs : List Nat) (k : Nat), Pc.fvl (Pc.cll ns bs l) k → k ∈ ns ∨ k ∈ bs
  | [], bs, k, h => h.elim
  | p :: l, bs, k, h => by
    rcases h with h | h
    · exact cl_fv h0 p bs k h
    · exact cll_fv h0 l bs k h
end
theorem in_natsL {k : Nat} {ns : List Nat} : kInL false (.int k) (.lst (ns.map nat)) st = .ok (.bl (decide (k ∈ ns))) st := by
  have e1 : dat (.int k) = some (.int k) := rfl
  have e2 : datS st (.lst (ns.map nat)) = some (.list (ns.map fun n : Nat => PyData.int n)) := by
    show dat (.lst (ns.map nat)) = _
    unfold dat
    rw [dats_ints]
    rfl
  have sh : SeqAt.shaped (.list (ns.map fun n : Nat => PyData.int n)) = true := by
    have := shaped_ints ns
    unfold SeqAt.shaped PyData.canLay0 PyData.depth at this ⊢
    exact this
  unfold kInL
  rw [e1, e2]
  simp only [shaped_int, sh, Bool.and_self, if_true, cond_false, any_ints]
theorem catN {a b : List Nat} (h : a.length + b.length ≤ 1000000) : kCat (.lst (a.map nat)) (.lst (b.map nat)) st = .ok (.lst ((a ++ b).map nat)) st := by
  rw [List.map_append]
  exact k_cat (small_len (by simp; omega))
theorem catN1 {a : List Nat} {x : Nat} (h : a.length ≤ 1000) : kCat (.lst (a.map nat)) (.lst [.int x]) st = .ok (.lst ((a ++ [x]).map nat)) st := catN (b := [x]) (by simp; omega)
theorem head_ok {ns : List Nat} (h0 : ns ≠ []) : L2.atI (ns.map nat) 0 = some (.int (ns.headD 0 : Nat)) := by
  cases ns with
  | nil => exact absurd rfl h0
  | cons n l => exact at_0
theorem pick_if {ns bs : List Nat} {x : Nat} : (if decide (x ∈ ns ++ bs) = true then Res.ok (W.int x) st else .ok (.int (ns.headD 0 : Nat)) st) = .ok (.int (pick ns bs x)) st := by
  unfold pick
  by_cases h : x ∈ ns ++ bs
  · rw [decide_eq_true h, if_pos rfl, if_pos h]
  · rw [decide_eq_false h, if_neg (by simp), if_neg h]
theorem in_tags {x : Str} {r : Bool} (h : chk false x ["one", "beside"] r = true) : kInT false (.str x) (.tup [.str "one", .str "beside"]) st = .ok (.bl r) st := in_ h
theorem lclosed_ok {ns : List Nat} (h0 : ns ≠ []) (hl : ns.length ≤ 100) : ∀ (n : Nat) (p : Pc) (bs : List Nat), p.d < n → p.t.length ≤ 10000 → bs.length + p.d ≤ 500 → f__law_closed n [p.w, .lst (ns.map nat), .lst (bs.map nat)] st = .ok (p.cl ns bs).w st
  | 0, p, _, h, _, _ => by omega
  | n + 1, .sum b l, bs, h, ht, hb => by
    simp only [Pc.d] at h hb
    simp only [Pc.t, List.length_cons, List.length_append] at ht
    have hs := sep_len (cond b "+" "/") l
    have i1 := in_tags (st := st) (x := cond b "one" "beside") (r := true) (by cases b <;> decide +kernel)
    have hlen : ∀ l : List Pc, l.length ≤ (Pc.restT (cond b "+" "/") l).length := by
      intro l
      induction l with
      | nil => simp [Pc.restT]
      | cons p l ih => simp [Pc.restT]; omega
    have m : ∀ (q : List Pc) (acc : List W) (z : Env'), (∀ p ∈ q, p ∈ l) → z[1]? = some (some (.lst (ns.map nat))) → z[2]? = some (some (.lst (bs.map nat))) → z.length = 9 → acc.length + q.length ≤ 900000 →
        lcLoop (gN 7) bYes (eCall 3 (f__law_closed n) (aCons (eVar 7) (aCons (eVar 1) (aCons (eVar 2) aNil)))) (Pc.wl q) acc z st = .ok (acc ++ Pc.wl (Pc.cll ns bs q)) st := by
      intro q
      induction q with
      | nil => intro acc z _ _ _ _ _; simp [Pc.wl, Pc.cll, x_lc0]
      | cons p q ih =>
        intro acc z hq e1 e2' hz ha
        simp only [List.length_cons] at ha
        have hp := hq p (List.mem_cons_self ..)
        have e3 := lclosed_ok h0 hl n p bs (by have := dl_le hp; omega) (by have := restT_len (cond b "+" "/") hp; omega) (by have := dl_le hp; omega)
        have sm : small ((p.cl ns bs).w :: acc) = true := small_len (by simp; omega)
        have f1 : (z.set 7 (some p.w))[7]? = some (some p.w) := List.getElem?_set_self (by omega)
        have f2 : (z.set 7 (some p.w))[1]? = some (some (.lst (ns.map nat))) := by rw [List.getElem?_set_ne (by decide)]; exact e1
        have f3 : (z.set 7 (some p.w))[2]? = some (some (.lst (bs.map nat))) := by rw [List.getElem?_set_ne (by decide)]; exact e2'
        rw [Pc.wl, Pc.cll, Pc.wl, x_lcS]
        simp only [x_gN, nox_ok, Res.bind_ok, x_yes, if_true, x_call, x_acons, x_anil, x_var, f1, f2, f3, getV_some, List.length_cons, List.length_nil, Nat.reduceAdd, e3, sm]
        rw [ih (acc ++ [(p.cl ns bs).w]) z (fun y hy => hq y (List.mem_cons_of_mem _ hy)) e1 e2' hz (by simp; omega)]
        simp
    have m' := m l [] [some (Pc.sum b l).w, some (.lst (ns.map nat)), some (.lst (bs.map nat)), some (.str (cond b "one" "beside")), none, none, none, none, none] (fun _ h => h) rfl rfl rfl (by have := hlen l; simp; omega)
    rw [u__law_closed]
    simp only [Pc.w] at m' ⊢
    simp only [b__law_closed, fin_rt, fin_nx, fin_exc, x_cons, thenS_nx, thenS_rt, thenS_ct, thenS_exc, x_nil, x_set, x_expr, x_ret, x_if, x_cont, x_asg, x_par, x_par3, x_for, x_loop0, outL_nx, outL_ct, outL_rt, x_raise, x_var, getV_some, x_c, x_e2, x_eT, asB_bl, x_and, x_or, x_not, x_vand, x_vor, x_vnot, x_ifE, x_chain, x_anil, x_acons, x_tup, x_lst, x_lstM, x_call, x_callD, x_CB, x_M0, x_M, x_neg, x_isi, x_iL, x_iT, asL_lst, asT_tup, x_gN, x_gT2, x_lc, x_lcEnd, x_lcEndM, x_lc0, nox_ok, x_yes, k_ii, k_eqS, k_eqI, k_lenL, k_lenT, k_tupL, k_tupT, k_lstT, k_lstS, k_int, at_0, at_1, at_2, at_3, toR_some, k_ixT, k_ixL, k_isNN, k_isNT, isS_S, x_dput, Res.bind_ok, Res.bind_exc, Res.bind_bad, List.getElem?_cons_zero, List.getElem?_cons_succ, List.set_cons_zero, List.set_cons_succ, List.length_cons, List.length_nil, if_true, if_false, Bool.false_eq_true, Bool.not_true, Bool.not_false, cond_true, cond_false, small, Nat.reduceAdd, Nat.reduceLeDiff, decide_true, decide_false, reduceCtorEq, reduceIte, i1, m']
    rfl
  | n + 1, .wait p, bs, h, ht, hb => by
    simp only [Pc.d] at h hb
    simp only [Pc.t, List.length_cons] at ht
    have i1 := in_tags (st := st) (x := "wait") (r := false) (by decide +kernel)
    have e := lclosed_ok h0 hl n p bs (by omega) (by omega) (by omega)
    rw [u__law_closed]
    simp only [Pc.w, b__law_closed, fin_rt, fin_nx, fin_exc, x_cons, thenS_nx, thenS_rt, thenS_ct, thenS_exc, x_nil, x_set, x_expr, x_ret, x_if, x_cont, x_asg, x_par, x_par3, x_for, x_loop0, outL_nx, outL_ct, outL_rt, x_raise, x_var, getV_some, x_c, x_e2, x_eT, asB_bl, x_and, x_or, x_not, x_vand, x_vor, x_vnot, x_ifE, x_chain, x_anil, x_acons, x_tup, x_lst, x_lstM, x_call, x_callD, x_CB, x_M0, x_M, x_neg, x_isi, x_iL, x_iT, asL_lst, asT_tup, x_gN, x_gT2, x_lc, x_lcEnd, x_lcEndM, x_lc0, nox_ok, x_yes, k_ii, k_eqS, k_eqI, k_lenL, k_lenT, k_tupL, k_tupT, k_lstT, k_lstS, k_int, at_0, at_1, at_2, at_3, toR_some, k_ixT, k_ixL, k_isNN, k_isNT, isS_S, x_dput, Res.bind_ok, Res.bind_exc, Res.bind_bad, List.getElem?_cons_zero, List.getElem?_cons_succ, List.set_cons_zero, List.set_cons_succ, List.length_cons, List.length_nil, if_true, if_false, Bool.false_eq_true, Bool.not_true, Bool.not_false, cond_true, cond_false, small, Nat.reduceAdd, Nat.reduceLeDiff, decide_true, decide_false, reduceCtorEq, reduceIte, i1, e]
    rfl
  | n + 1, .nw x p, bs, h, ht, hb => by
    simp only [Pc.d] at h hb
    simp only [Pc.t, List.length_cons] at ht
    have i1 := in_tags (st := st) (x := "new") (r := false) (by decide +kernel)
    have d1 : decide (("new" : Str) = "wait") = false := by decide +kernel
    have d2 : decide (("new" : Str) = "call") = false := by decide +kernel
    have e := lclosed_ok h0 hl n p (bs ++ [x]) (by omega) (by omega) (by simp; omega)
    have c := catN (st := st) (a := ns) (b := bs) (by omega)
    have c1 := catN1 (st := st) (a := bs) (x := x) (by omega)
    rw [u__law_closed]
    simp only [Pc.w, nat, b__law_closed, fin_rt, fin_nx, fin_exc, x_cons, thenS_nx, thenS_rt, thenS_ct, thenS_exc, x_nil, x_set, x_expr, x_ret, x_if, x_cont, x_asg, x_par, x_par3, x_for, x_loop0, outL_nx, outL_ct, outL_rt, x_raise, x_var, getV_some, x_c, x_e2, x_eT, asB_bl, x_and, x_or, x_not, x_vand, x_vor, x_vnot, x_ifE, x_chain, x_anil, x_acons, x_tup, x_lst, x_lstM, x_call, x_callD, x_CB, x_M0, x_M, x_neg, x_isi, x_iL, x_iT, asL_lst, asT_tup, x_gN, x_gT2, x_lc, x_lcEnd, x_lcEndM, x_lc0, nox_ok, x_yes, k_ii, k_eqS, k_eqI, k_lenL, k_lenT, k_tupL, k_tupT, k_lstT, k_lstS, k_int, at_0, at_1, at_2, at_3, toR_some, k_ixT, k_ixL, k_isNN, k_isNT, isS_S, x_dput, Res.bind_ok, Res.bind_exc, Res.bind_bad, List.getElem?_cons_zero, List.getElem?_cons_succ, List.set_cons_zero, List.set_cons_succ, List.length_cons, List.length_nil, if_true, if_false, Bool.false_eq_true, Bool.not_true, Bool.not_false, cond_true, cond_false, small, Nat.reduceAdd, Nat.reduceLeDiff, decide_true, decide_false, reduceCtorEq, reduceIte, i1, d1, d2, c, c1, e]
    rfl
  | n + 1, .call k l, bs, h, ht, hb => by
    simp only [Pc.d] at h hb
    simp only [Pc.t, List.length_cons, List.length_append, List.length_map] at ht
    have i1 := in_tags (st := st) (x := "call") (r := false) (by decide +kernel)
    have d1 : decide (("call" : Str) = "wait") = false := by decide +kernel
    have c := catN (st := st) (a := ns) (b := bs) (by omega)
    have hd := head_ok h0
    have m := lc_map nat (fun x => nat (pick ns bs x)) [some (.tup [.str "call", .int k, .tup (l.map nat)]), some (.lst (ns.map nat)), some (.lst (bs.map nat)), some (.str "call"), some (.lst ((ns ++ bs).map nat)), none, none, none, none] 8 (eIf (eT (e2 (kInL false) (eVar 8) (eVar 4))) (eVar 8) (e2 kIx (eVar 1) (eC (.int 0)))) st l [] (fun x _ => by
      simp only [nat, fin_rt, fin_nx, fin_exc, x_cons, thenS_nx, thenS_rt, thenS_ct, thenS_exc, x_nil, x_set, x_expr, x_ret, x_if, x_cont, x_asg, x_par, x_par3, x_for, x_loop0, outL_nx, outL_ct, outL_rt, x_raise, x_var, getV_some, x_c, x_e2, x_eT, asB_bl, x_and, x_or, x_not, x_vand, x_vor, x_vnot, x_ifE, x_chain, x_anil, x_acons, x_tup, x_lst, x_lstM, x_call, x_callD, x_CB, x_M0, x_M, x_neg, x_isi, x_iL, x_iT, asL_lst, asT_tup, x_gN, x_gT2, x_lc, x_lcEnd, x_lcEndM, x_lc0, nox_ok, x_yes, k_ii, k_eqS, k_eqI, k_lenL, k_lenT, k_tupL, k_tupT, k_lstT, k_lstS, k_int, at_0, at_1, at_2, at_3, toR_some, k_ixT, k_ixL, k_isNN, k_isNT, isS_S, x_dput, Res.bind_ok, Res.bind_exc, Res.bind_bad, List.getElem?_cons_zero, List.getElem?_cons_succ, List.set_cons_zero, List.set_cons_succ, List.length_cons, List.length_nil, if_true, if_false, Bool.false_eq_true, Bool.not_true, Bool.not_false, cond_true, cond_false, small, Nat.reduceAdd, Nat.reduceLeDiff, decide_true, decide_false, reduceCtorEq, reduceIte, in_natsL, hd, pick_if]) (by simp; omega)
    rw [List.nil_append] at m
    rw [u__law_closed]
    simp only [Pc.w, nat, b__law_closed, fin_rt, fin_nx, fin_exc, x_cons, thenS_nx, thenS_rt, thenS_ct, thenS_exc, x_nil, x_set, x_expr, x_ret, x_if, x_cont, x_asg, x_par, x_par3, x_for, x_loop0, outL_nx, outL_ct, outL_rt, x_raise, x_var, getV_some, x_c, x_e2, x_eT, asB_bl, x_and, x_or, x_not, x_vand, x_vor, x_vnot, x_ifE, x_chain, x_anil, x_acons, x_tup, x_lst, x_lstM, x_call, x_callD, x_CB, x_M0, x_M, x_neg, x_isi, x_iL, x_iT, asL_lst, asT_tup, x_gN, x_gT2, x_lc, x_lcEnd, x_lcEndM, x_lc0, nox_ok, x_yes, k_ii, k_eqS, k_eqI, k_lenL, k_lenT, k_tupL, k_tupT, k_lstT, k_lstS, k_int, at_0, at_1, at_2, at_3, toR_some, k_ixT, k_ixL, k_isNN, k_isNT, isS_S, x_dput, Res.bind_ok, Res.bind_exc, Res.bind_bad, List.getElem?_cons_zero, List.getElem?_cons_succ, List.set_cons_zero, List.set_cons_succ, List.length_cons, List.length_nil, if_true, if_false, Bool.false_eq_true, Bool.not_true, Bool.not_false, cond_true, cond_false, small, Nat.reduceAdd, Nat.reduceLeDiff, decide_true, decide_false, reduceCtorEq, reduceIte, i1, d1, c] at m ⊢
    simp only [m, fin_rt, fin_nx, fin_exc, x_cons, thenS_nx, thenS_rt, thenS_ct, thenS_exc, x_nil, x_set, x_expr, x_ret, x_if, x_cont, x_asg, x_par, x_par3, x_for, x_loop0, outL_nx, outL_ct, outL_rt, x_raise, x_var, getV_some, x_c, x_e2, x_eT, asB_bl, x_and, x_or, x_not, x_vand, x_vor, x_vnot, x_ifE, x_chain, x_anil, x_acons, x_tup, x_lst, x_lstM, x_call, x_callD, x_CB, x_M0, x_M, x_neg, x_isi, x_iL, x_iT, asL_lst, asT_tup, x_gN, x_gT2, x_lc, x_lcEnd, x_lcEndM, x_lc0, nox_ok, x_yes, k_ii, k_eqS, k_eqI, k_lenL, k_lenT, k_tupL, k_tupT, k_lstT, k_lstS, k_int, at_0, at_1, at_2, at_3, toR_some, k_ixT, k_ixL, k_isNN, k_isNT, isS_S, x_dput, Res.bind_ok, Res.bind_exc, Res.bind_bad, List.getElem?_cons_zero, List.getElem?_cons_succ, List.set_cons_zero, List.set_cons_succ, List.length_cons, List.length_nil, if_true, if_false, Bool.false_eq_true, Bool.not_true, Bool.not_false, cond_true, cond_false, small, Nat.reduceAdd, Nat.reduceLeDiff, decide_true, decide_false, reduceCtorEq, reduceIte]
    simp only [Pc.cl, Pc.w, nat, List.map_map]
    rfl
  | n + 1, .pre .take x y p, bs, h, ht, hb => by
    simp only [Pc.d] at h hb
    simp only [Pc.t, List.length_cons] at ht
    have i1 := in_tags (st := st) (x := "take") (r := false) (by decide +kernel)
    have d1 : decide (("take" : Str) = "wait") = false := by decide +kernel
    have d2 : decide (("take" : Str) = "call") = false := by decide +kernel
    have d3 : decide (("take" : Str) = "new") = false := by decide +kernel
    have e := lclosed_ok h0 hl n p (bs ++ [y]) (by omega) (by omega) (by simp; omega)
    have c := catN (st := st) (a := ns) (b := bs) (by omega)
    have c1 := catN1 (st := st) (a := bs) (x := y) (by omega)
    have hd := head_ok h0
    rw [u__law_closed]
    simp only [Pc.w, Hd.w, nat, b__law_closed, fin_rt, fin_nx, fin_exc, x_cons, thenS_nx, thenS_rt, thenS_ct, thenS_exc, x_nil, x_set, x_expr, x_ret, x_if, x_cont, x_asg, x_par, x_par3, x_for, x_loop0, outL_nx, outL_ct, outL_rt, x_raise, x_var, getV_some, x_c, x_e2, x_eT, asB_bl, x_and, x_or, x_not, x_vand, x_vor, x_vnot, x_ifE, x_chain, x_anil, x_acons, x_tup, x_lst, x_lstM, x_call, x_callD, x_CB, x_M0, x_M, x_neg, x_isi, x_iL, x_iT, asL_lst, asT_tup, x_gN, x_gT2, x_lc, x_lcEnd, x_lcEndM, x_lc0, nox_ok, x_yes, k_ii, k_eqS, k_eqI, k_lenL, k_lenT, k_tupL, k_tupT, k_lstT, k_lstS, k_int, at_0, at_1, at_2, at_3, toR_some, k_ixT, k_ixL, k_isNN, k_isNT, isS_S, x_dput, Res.bind_ok, Res.bind_exc, Res.bind_bad, List.getElem?_cons_zero, List.getElem?_cons_succ, List.set_cons_zero, List.set_cons_succ, List.length_cons, List.length_nil, if_true, if_false, Bool.false_eq_true, Bool.not_true, Bool.not_false, cond_true, cond_false, small, Nat.reduceAdd, Nat.reduceLeDiff, decide_true, decide_false, reduceCtorEq, reduceIte, i1, d1, d2, d3, c, c1, in_natsL, hd, pick_if, e]
    rfl
  | n + 1, .pre .send x y p, bs, h, ht, hb => by
    simp only [Pc.d] at h hb
    simp only [Pc.t, List.length_cons] at ht
    have i1 := in_tags (st := st) (x := "send") (r := false) (by decide +kernel)
    have d1 : decide (("send" : Str) = "wait") = false := by decide +kernel
    have d2 : decide (("send" : Str) = "call") = false := by decide +kernel
    have d3 : decide (("send" : Str) = "new") = false := by decide +kernel
    have d4 : decide (("send" : Str) = "take") = false := by decide +kernel
    have e := lclosed_ok h0 hl n p bs (by omega) (by omega) (by omega)
    have c := catN (st := st) (a := ns) (b := bs) (by omega)
    have hd := head_ok h0
    rw [u__law_closed]
    simp only [Pc.w, Hd.w, nat, b__law_closed, fin_rt, fin_nx, fin_exc, x_cons, thenS_nx, thenS_rt, thenS_ct, thenS_exc, x_nil, x_set, x_expr, x_ret, x_if, x_cont, x_asg, x_par, x_par3, x_for, x_loop0, outL_nx, outL_ct, outL_rt, x_raise, x_var, getV_some, x_c, x_e2, x_eT, asB_bl, x_and, x_or, x_not, x_vand, x_vor, x_vnot, x_ifE, x_chain, x_anil, x_acons, x_tup, x_lst, x_lstM, x_call, x_callD, x_CB, x_M0, x_M, x_neg, x_isi, x_iL, x_iT, asL_lst, asT_tup, x_gN, x_gT2, x_lc, x_lcEnd, x_lcEndM, x_lc0, nox_ok, x_yes, k_ii, k_eqS, k_eqI, k_lenL, k_lenT, k_tupL, k_tupT, k_lstT, k_lstS, k_int, at_0, at_1, at_2, at_3, toR_some, k_ixT, k_ixL, k_isNN, k_isNT, isS_S, x_dput, Res.bind_ok, Res.bind_exc, Res.bind_bad, List.getElem?_cons_zero, List.getElem?_cons_succ, List.set_cons_zero, List.set_cons_succ, List.length_cons, List.length_nil, if_true, if_false, Bool.false_eq_true, Bool.not_true, Bool.not_false, cond_true, cond_false, small, Nat.reduceAdd, Nat.reduceLeDiff, decide_true, decide_false, reduceCtorEq, reduceIte, i1, d1, d2, d3, d4, c, in_natsL, hd, pick_if, e]
    rfl
  | n + 1, .pre .alike x y p, bs, h, ht, hb => by
    simp only [Pc.d] at h hb
    simp only [Pc.t, List.length_cons] at ht
    have i1 := in_tags (st := st) (x := "alike") (r := false) (by decide +kernel)
    have d1 : decide (("alike" : Str) = "wait") = false := by decide +kernel
    have d2 : decide (("alike" : Str) = "call") = false := by decide +kernel
    have d3 : decide (("alike" : Str) = "new") = false := by decide +kernel
    have d4 : decide (("alike" : Str) = "take") = false := by decide +kernel
    have e := lclosed_ok h0 hl n p bs (by omega) (by omega) (by omega)
    have c := catN (st := st) (a := ns) (b := bs) (by omega)
    have hd := head_ok h0
    rw [u__law_closed]
    simp only [Pc.w, Hd.w, nat, b__law_closed, fin_rt, fin_nx, fin_exc, x_cons, thenS_nx, thenS_rt, thenS_ct, thenS_exc, x_nil, x_set, x_expr, x_ret, x_if, x_cont, x_asg, x_par, x_par3, x_for, x_loop0, outL_nx, outL_ct, outL_rt, x_raise, x_var, getV_some, x_c, x_e2, x_eT, asB_bl, x_and, x_or, x_not, x_vand, x_vor, x_vnot, x_ifE, x_chain, x_anil, x_acons, x_tup, x_lst, x_lstM, x_call, x_callD, x_CB, x_M0, x_M, x_neg, x_isi, x_iL, x_iT, asL_lst, asT_tup, x_gN, x_gT2, x_lc, x_lcEnd, x_lcEndM, x_lc0, nox_ok, x_yes, k_ii, k_eqS, k_eqI, k_lenL, k_lenT, k_tupL, k_tupT, k_lstT, k_lstS, k_int, at_0, at_1, at_2, at_3, toR_some, k_ixT, k_ixL, k_isNN, k_isNT, isS_S, x_dput, Res.bind_ok, Res.bind_exc, Res.bind_bad, List.getElem?_cons_zero, List.getElem?_cons_succ, List.set_cons_zero, List.set_cons_succ, List.length_cons, List.length_nil, if_true, if_false, Bool.false_eq_true, Bool.not_true, Bool.not_false, cond_true, cond_false, small, Nat.reduceAdd, Nat.reduceLeDiff, decide_true, decide_false, reduceCtorEq, reduceIte, i1, d1, d2, d3, d4, c, in_natsL, hd, pick_if, e]
    rfl
  | n + 1, .pre .unlike x y p, bs, h, ht, hb => by
    simp only [Pc.d] at h hb
    simp only [Pc.t, List.length_cons] at ht
    have i1 := in_tags (st := st) (x := "unlike") (r := false) (by decide +kernel)
    have d1 : decide (("unlike" : Str) = "wait") = false := by decide +kernel
    have d2 : decide (("unlike" : Str) = "call") = false := by decide +kernel
    have d3 : decide (("unlike" : Str) = "new") = false := by decide +kernel
    have d4 : decide (("unlike" : Str) = "take") = false := by decide +kernel
    have e := lclosed_ok h0 hl n p bs (by omega) (by omega) (by omega)
    have c := catN (st := st) (a := ns) (b := bs) (by omega)
    have hd := head_ok h0
    rw [u__law_closed]
    simp only [Pc.w, Hd.w, nat, b__law_closed, fin_rt, fin_nx, fin_exc, x_cons, thenS_nx, thenS_rt, thenS_ct, thenS_exc, x_nil, x_set, x_expr, x_ret, x_if, x_cont, x_asg, x_par, x_par3, x_for, x_loop0, outL_nx, outL_ct, outL_rt, x_raise, x_var, getV_some, x_c, x_e2, x_eT, asB_bl, x_and, x_or, x_not, x_vand, x_vor, x_vnot, x_ifE, x_chain, x_anil, x_acons, x_tup, x_lst, x_lstM, x_call, x_callD, x_CB, x_M0, x_M, x_neg, x_isi, x_iL, x_iT, asL_lst, asT_tup, x_gN, x_gT2, x_lc, x_lcEnd, x_lcEndM, x_lc0, nox_ok, x_yes, k_ii, k_eqS, k_eqI, k_lenL, k_lenT, k_tupL, k_tupT, k_lstT, k_lstS, k_int, at_0, at_1, at_2, at_3, toR_some, k_ixT, k_ixL, k_isNN, k_isNT, isS_S, x_dput, Res.bind_ok, Res.bind_exc, Res.bind_bad, List.getElem?_cons_zero, List.getElem?_cons_succ, List.set_cons_zero, List.set_cons_succ, List.length_cons, List.length_nil, if_true, if_false, Bool.false_eq_true, Bool.not_true, Bool.not_false, cond_true, cond_false, small, Nat.reduceAdd, Nat.reduceLeDiff, decide_true, decide_false, reduceCtorEq, reduceIte, i1, d1, d2, d3, d4, c, in_natsL, hd, pick_if, e]
    rfl
end K85
end
section
set_option Elab.async false
set_option linter.all false
set_option maxRecDepth 100000
set_option maxHeartbeats 1000000
/-! M22: programs are drawn; words are spread out. -/
namespace K85
open PySem Vl
variable {P : Addr} {cells : List Int} {B : Nat} {st st' : Store} {ks : List Nat}
def pars (f w : Nat) : List Nat := (List.range w).map fun i => (f + 3 * i) % 10
theorem pars_ok : ∀ f, f < 10 → ∀ w, w < 4 → (decide ((sortI ((pars f w).map fun n : Nat => (n : Int))).length = w) && decide ((pars f w).length = w) && (pars f w).all fun n => decide (n < 10)) = true := by decide +kernel
theorem param_lc {f w : Nat} {e : Env'} (hf : f < 10) (hw : w < 4) (he : e[4]? = some (some (.int f))) (hl : e.length = 9) : lcLoop (gN 8) bYes (e2 kMod (eCB kInt (aCons (e2 kAdd (eVar 4) (e2 kMul (eC (.int 3)) (eVar 8))) aNil)) (eC (.int 10))) (intsW w) [] e st = .ok ((pars f w).map nat) st := by
  have m := lc_map (fun k : Nat => W.int (k : Nat)) (fun i => nat ((f + 3 * i) % 10)) e 8 (e2 kMod (eCB kInt (aCons (e2 kAdd (eVar 4) (e2 kMul (eC (.int 3)) (eVar 8))) aNil)) (eC (.int 10))) st (List.range w) [] (fun i hi => by
    have h8 : (e.set 8 (some (.int (i : Nat))))[8]? = some (some (.int (i : Nat))) := List.getElem?_set_self (by omega)
    have h4 : (e.set 8 (some (.int (i : Nat))))[4]? = some (some (.int f)) := by rw [List.getElem?_set_ne (by decide)]; exact he
    have e1 : kMul (.int 3) (.int (i : Nat)) st = .ok (.int (3 * (i : Nat))) st := mulL (by omega) (by omega)
    have e2' : kMod (.int ((f : Int) + 3 * (i : Nat))) (.int 10) st = .ok (.int (((f + 3 * i) % 10 : Nat))) st := by
      rw [modP (by omega)]
      exact congrArg (fun z => Res.ok (W.int z) st) (by omega)
    simp only [fin_rt, fin_nx, fin_exc, x_cons, thenS_nx, thenS_rt, thenS_ct, thenS_exc, x_nil, x_set, x_expr, x_ret, x_if, x_cont, x_asg, x_par, x_par3, x_for, x_loop0, outL_nx, outL_ct, outL_rt, x_raise, x_var, getV_some, x_c, x_e2, x_eT, asB_bl, x_and, x_or, x_not, x_vand, x_vor, x_vnot, x_ifE, x_chain, x_anil, x_acons, x_tup, x_lst, x_lstM, x_call, x_callD, x_CB, x_M0, x_M, x_neg, x_isi, x_iL, x_iT, asL_lst, asT_tup, x_gN, x_gT2, x_lc, x_lcEnd, x_lcEndM, x_lc0, nox_ok, x_yes, k_ii, k_eqS, k_eqI, k_lenL, k_lenT, k_tupL, k_tupT, k_lstT, k_lstS, k_int, at_0, at_1, at_2, at_3, toR_some, k_ixT, k_ixL, k_isNN, k_isNT, isS_S, x_dput, Res.bind_ok, Res.bind_exc, Res.bind_bad, List.getElem?_cons_zero, List.getElem?_cons_succ, List.set_cons_zero, List.set_cons_succ, List.length_cons, List.length_nil, if_true, if_false, Bool.false_eq_true, Bool.not_true, Bool.not_false, cond_true, cond_false, small, Nat.reduceAdd, Nat.reduceLeDiff, decide_true, decide_false, reduceCtorEq, reduceIte, h8, h4, e1, e2', nat]) (by simp; omega)
  rw [List.nil_append] at m
  unfold intsW pars
  rw [m, List.map_map]
  rfl
theorem drawn_loop (hk : Ks ks) {a b x7 x8 : Option W} (ha : a = some (.obj 1)) (hb : b = some (.lst (ks.map nat))) : ∀ (rest : List Nat) (D : List Dn) (B : Nat) (st : Store) (x3 x4 x5 x6 : Option W), (∀ k ∈ rest, 1 ≤ k ∧ k ≤ 3) → SV P cells B st → B + 100 * rest.length < 2 ^ 58 → D.length + rest.length ≤ 4 →
    ∃ (D' : List Dn) (st' : Store) (y3 y4 y5 y6 : Option W), wds D' = rest ∧ (∀ d ∈ D', DnV ks d ∧ d.2.sz ≤ 8 ∧ d.t.length ≤ 44) ∧ SV P cells (B + 100 * rest.length) st' ∧ Mv st st' ∧
      sLoop (gN 3) (sCons (sSet 4 (eCall 2 f__law_draw (aCons (eVar 0) (aCons (eC (.int 10)) aNil)))) (sCons (sSet 5 (eCB kTuple (aCons (eLc false (iRange (aCons (eVar 3) aNil)) (gN 8) bYes (e2 kMod (eCB kInt (aCons (e2 kAdd (eVar 4) (e2 kMul (eC (.int 3)) (eVar 8))) aNil)) (eC (.int 10)))) aNil))) (sCons (sSet 6 (eCall 3 (f__law_closed 20) (aCons (eCall 4 (f__law_piece 20) (aCons (eVar 0) (aCons (eC (.int 2)) (aCons (eVar 1) (aCons (eC (.bl false)) aNil))))) (aCons (eCB kList (aCons (eVar 5) aNil)) (aCons (eLst aNil) aNil))))) (sSet 2 (e2 kCatT (eVar 2) (eTup (aCons (eTup (aCons (eVar 5) (aCons (eVar 6) aNil))) aNil)))))))
        (rest.map nat) [a, b, some (.tup (D.map Dn.w)), x3, x4, x5, x6, x7, x8] st = .ok (.nx [a, b, some (.tup ((D ++ D').map Dn.w)), y3, y4, y5, y6, x7, x8]) st'
  | [], D, B, st, x3, x4, x5, x6, _, h, _, _ => ⟨[], st, x3, x4, x5, x6, rfl, fun _ z => (by cases z), h.up (by omega), .refl, by simp [x_loop0]⟩
  | w :: rest, D, B, st, x3, x4, x5, x6, hr, h, hB, hD => by
    subst ha hb
    simp only [List.length_cons] at hB hD
    obtain ⟨w1, w2⟩ := hr w (List.mem_cons_self ..)
    obtain ⟨f, st1, a1, a2, a3, a4⟩ := draw3 (i := 10) (n := 10) rfl h (by omega) (by omega) (by omega)
    obtain ⟨p, st2, b1, b2, b3, b4⟩ := (drawn_ok (P := P) (cells := cells) hk 20 3 (by omega)).2 (by omega) 2 false (B + 1) st1 (by omega) a2 (by omega)
    have po := pars_ok f a1 w (by omega)
    simp only [Bool.and_eq_true, decide_eq_true_eq, List.all_eq_true] at po
    obtain ⟨⟨p1, p2⟩, p3⟩ := po
    have p0 : pars f w ≠ [] := fun z => by rw [z] at p2; simp at p2; omega
    have dt := b1.d
    have tt := b1.t
    have d4 : dP 3 = 4 := rfl
    have t4 : tP 3 = 37 := rfl
    have s4 : sP 3 = 8 := rfl
    have c4 : cP 3 = 30 := rfl
    have pc := cl_same (ns := pars f w) p3 p []
    have cl := lclosed_ok (st := st2) p0 (by omega) 20 p [] (by omega) (by omega) (by simp; omega)
    have dn : DnV ks (pars f w, p.cl (pars f w) []) := {
      ok := ⟨p3, by show (pars f w).length ≤ 400; omega, pc.nm b1.nm, pc.rd b1.rd, by show (p.cl (pars f w) []).d < 20; rw [pc.d]; omega⟩
      len := by show (pars f w).length ≤ 4; omega
      dist := by show (sortI ((pars f w).map fun n : Nat => (n : Int))).length = (pars f w).length; rw [p1, p2]
      chk := pc.chk _ (b1.chk _ rfl (fun z => by cases z) (fun z => by cases z))
      dp := by show (p.cl (pars f w) []).d ≤ 12; rw [pc.d]; omega
      fv := fun k hk => by
        rcases cl_fv p0 p [] k hk with q | q
        · exact q
        · cases q }
    have tl : (Dn.t (pars f w, p.cl (pars f w) [])).length ≤ 44 := by rw [t_len]; show (pars f w).length + (p.cl (pars f w) []).t.length + 4 ≤ 44; rw [pc.t]; omega
    obtain ⟨D', st', y3, y4, y5, y6, q1, q2, q3, q4, q5⟩ := drawn_loop hk (a := some (.obj 1)) (b := some (.lst (ks.map nat))) (x7 := x7) (x8 := x8) rfl rfl rest (D ++ [(pars f w, p.cl (pars f w) [])]) (B + 100) st2 (some (.int w)) (some (.int f)) (some (.tup ((pars f w).map nat))) (some (p.cl (pars f w) []).w) (fun k hk => hr k (List.mem_cons_of_mem _ hk)) (b2.up (by omega)) (by omega) (by simp; omega)
    refine ⟨(pars f w, p.cl (pars f w) []) :: D', st', y3, y4, y5, y6, ?_, fun d hd => ?_, q3.up (by simp only [List.length_cons]; omega), (a3.trans b3).trans q4, ?_⟩
    · show (pars f w).length :: wds D' = _
      rw [p2, q1]
    · rcases List.mem_cons.mp hd with rfl | hd
      · exact ⟨dn, by show (p.cl (pars f w) []).sz ≤ 8; rw [pc.sz]; have := b1.sz; omega, tl⟩
      · exact q2 d hd
    · have r1 : iRange (aCons (eVar 3) aNil) [some (.obj 1), some (.lst (ks.map nat)), some (.tup (D.map Dn.w)), some (.int w), some (.int f), x5, x6, x7, x8] st1 = .ok (intsW w) st1 := range_ok (by simp only [fin_rt, fin_nx, fin_exc, x_cons, thenS_nx, thenS_rt, thenS_ct, thenS_exc, x_nil, x_set, x_expr, x_ret, x_if, x_cont, x_asg, x_par, x_par3, x_for, x_loop0, outL_nx, outL_ct, outL_rt, x_raise, x_var, getV_some, x_c, x_e2, x_eT, asB_bl, x_and, x_or, x_not, x_vand, x_vor, x_vnot, x_ifE, x_chain, x_anil, x_acons, x_tup, x_lst, x_lstM, x_call, x_callD, x_CB, x_M0, x_M, x_neg, x_isi, x_iL, x_iT, asL_lst, asT_tup, x_gN, x_gT2, x_lc, x_lcEnd, x_lcEndM, x_lc0, nox_ok, x_yes, k_ii, k_eqS, k_eqI, k_lenL, k_lenT, k_tupL, k_tupT, k_lstT, k_lstS, k_int, at_0, at_1, at_2, at_3, toR_some, k_ixT, k_ixL, k_isNN, k_isNT, isS_S, x_dput, Res.bind_ok, Res.bind_exc, Res.bind_bad, List.getElem?_cons_zero, List.getElem?_cons_succ, List.set_cons_zero, List.set_cons_succ, List.length_cons, List.length_nil, if_true, if_false, Bool.false_eq_true, Bool.not_true, Bool.not_false, cond_true, cond_false, small, Nat.reduceAdd, Nat.reduceLeDiff, decide_true, decide_false, reduceCtorEq, reduceIte]) (by omega)
      have m := param_lc (st := st1) (f := f) (w := w) (e := [some (.obj 1), some (.lst (ks.map nat)), some (.tup (D.map Dn.w)), some (.int w), some (.int f), x5, x6, x7, x8]) a1 (by omega) rfl rfl
      have ct : kCatT (.tup (D.map Dn.w)) (.tup [.tup [.tup ((pars f w).map nat), (p.cl (pars f w) []).w]]) st2 = .ok (.tup ((D ++ [(pars f w, p.cl (pars f w) [])]).map Dn.w)) st2 := by
        rw [List.map_append]
        exact k_catT (small_len (by simp; omega))
      simp only [List.map_nil] at cl
      rw [List.map_cons, x_loop]
      simp only [nat, fin_rt, fin_nx, fin_exc, x_cons, thenS_nx, thenS_rt, thenS_ct, thenS_exc, x_nil, x_set, x_expr, x_ret, x_if, x_cont, x_asg, x_par, x_par3, x_for, x_loop0, outL_nx, outL_ct, outL_rt, x_raise, x_var, getV_some, x_c, x_e2, x_eT, asB_bl, x_and, x_or, x_not, x_vand, x_vor, x_vnot, x_ifE, x_chain, x_anil, x_acons, x_tup, x_lst, x_lstM, x_call, x_callD, x_CB, x_M0, x_M, x_neg, x_isi, x_iL, x_iT, asL_lst, asT_tup, x_gN, x_gT2, x_lc, x_lcEnd, x_lcEndM, x_lc0, nox_ok, x_yes, k_ii, k_eqS, k_eqI, k_lenL, k_lenT, k_tupL, k_tupT, k_lstT, k_lstS, k_int, at_0, at_1, at_2, at_3, toR_some, k_ixT, k_ixL, k_isNN, k_isNT, isS_S, x_dput, Res.bind_ok, Res.bind_exc, Res.bind_bad, List.getElem?_cons_zero, List.getElem?_cons_succ, List.set_cons_zero, List.set_cons_succ, List.length_cons, List.length_nil, if_true, if_false, Bool.false_eq_true, Bool.not_true, Bool.not_false, cond_true, cond_false, small, Nat.reduceAdd, Nat.reduceLeDiff, decide_true, decide_false, reduceCtorEq, reduceIte, a4, r1, m, b4, k_lstT, cl, ct]
      rw [q5, List.append_assoc]
      rfl
theorem sums_d : ∀ D : List Dn, (∀ d ∈ D, d.2.sz ≤ 8 ∧ d.t.length ≤ 44) → dsz D ≤ 8 * D.length ∧ (dsT D).length ≤ 44 * D.length
  | [], _ => ⟨Nat.le_refl _, Nat.le_refl _⟩
  | d :: D, h => by
    obtain ⟨a, b⟩ := sums_d D fun z hz => h z (List.mem_cons_of_mem _ hz)
    obtain ⟨x, y⟩ := h d (List.mem_cons_self ..)
    rw [dsT_cons]
    simp only [dsz, List.map_cons, List.sum_cons, List.length_cons, List.length_append] at a ⊢
    omega
theorem ldrawn_ok (h : SV P cells B st) (hB : B < 2 ^ 57) : ∃ D m st', PrV D m ∧ SV P cells (B + 600) st' ∧ Mv st st' ∧ f__law_drawn [.obj 1] st = .ok (prW D m) st' := by
  obtain ⟨n, st1, a1, a2, a3, a4⟩ := draw3 (i := 5) (n := 5) rfl h (by omega) (by omega) (by omega)
  obtain ⟨ks, st2, c1, c2, c3, c4, c5⟩ := lc_draws (P := P) (cells := cells) (fun x : Nat => 1 ≤ x ∧ x ≤ 3) nat [some (.obj 1), none, none, none, none, none, none, none, none] 7 (e2 kAdd (eC (.int 1)) (eCall 2 f__law_draw (aCons (eVar 0) (aCons (eC (.int 3)) aNil)))) 1 (2 ^ 58) (fun w B st v hB' => by
    obtain ⟨x, st', d1, d2, d3, d4⟩ := draw3 (i := 3) (n := 3) rfl v (by omega) (by omega) (by omega)
    have e : (1 : Int) + (x : Nat) = ((1 + x : Nat) : Int) := by omega
    exact ⟨1 + x, st', ⟨by omega, by omega⟩, d2, d3, by simp only [fin_rt, fin_nx, fin_exc, x_cons, thenS_nx, thenS_rt, thenS_ct, thenS_exc, x_nil, x_set, x_expr, x_ret, x_if, x_cont, x_asg, x_par, x_par3, x_for, x_loop0, outL_nx, outL_ct, outL_rt, x_raise, x_var, getV_some, x_c, x_e2, x_eT, asB_bl, x_and, x_or, x_not, x_vand, x_vor, x_vnot, x_ifE, x_chain, x_anil, x_acons, x_tup, x_lst, x_lstM, x_call, x_callD, x_CB, x_M0, x_M, x_neg, x_isi, x_iL, x_iT, asL_lst, asT_tup, x_gN, x_gT2, x_lc, x_lcEnd, x_lcEndM, x_lc0, nox_ok, x_yes, k_ii, k_eqS, k_eqI, k_lenL, k_lenT, k_tupL, k_tupT, k_lstT, k_lstS, k_int, at_0, at_1, at_2, at_3, toR_some, k_ixT, k_ixL, k_isNN, k_isNT, isS_S, x_dput, Res.bind_ok, Res.bind_exc, Res.bind_bad, List.getElem?_cons_zero, List.getElem?_cons_succ, List.set_cons_zero, List.set_cons_succ, List.length_cons, List.length_nil, if_true, if_false, Bool.false_eq_true, Bool.not_true, Bool.not_false, cond_true, cond_false, small, Nat.reduceAdd, Nat.reduceLeDiff, decide_true, decide_false, reduceCtorEq, reduceIte, d4, e, nat]⟩) (intsW n) [] (B + 1) st1 a2 (by rw [intsW_len]; omega) (by rw [intsW_len]; simp; omega)
  rw [intsW_len] at c1 c3
  rw [List.nil_append] at c5
  have hk : Ks ks := ⟨by omega, c2⟩
  obtain ⟨D, st3, y3, y4, y5, y6, q1, q2, q3, q4, q5⟩ := drawn_loop (P := P) (cells := cells) hk (x7 := none) (x8 := none) rfl rfl ks [] (B + 1 + n * 1) st2 none none none none c2 c3 (by omega) (by simp; omega)
  obtain ⟨m, st4, b1, b2, b3, b4⟩ := main_ok hk q3 (by omega)
  have dl : D.length = ks.length := by
    have := congrArg List.length q1
    simpa [wds] using this
  have sd := sums_d D fun d hd => (q2 d hd).2
  have pv : PrV D m := {
    len := by omega
    ds := fun d hd => by rw [q1]; exact (q2 d hd).1
    nm := b1.nm
    rd := b1.rd
    chk := by rw [q1]; exact b1.chk
    dp := by have := b1.d; omega
    sz := by have := b1.sz; omega
    t := by
      have := b1.t
      simp only [prT, List.length_append]
      omega }
  refine ⟨D, m, st4, pv, b2.up (by omega), (a3.trans c4).trans (q4.trans b3), ?_⟩
  have r1 : iRange (aCons (eCall 2 f__law_draw (aCons (eVar 0) (aCons (eC (.int 5)) aNil))) aNil) [some (.obj 1), none, none, none, none, none, none, none, none] st = .ok (intsW n) st1 := range_ok (by simp only [fin_rt, fin_nx, fin_exc, x_cons, thenS_nx, thenS_rt, thenS_ct, thenS_exc, x_nil, x_set, x_expr, x_ret, x_if, x_cont, x_asg, x_par, x_par3, x_for, x_loop0, outL_nx, outL_ct, outL_rt, x_raise, x_var, getV_some, x_c, x_e2, x_eT, asB_bl, x_and, x_or, x_not, x_vand, x_vor, x_vnot, x_ifE, x_chain, x_anil, x_acons, x_tup, x_lst, x_lstM, x_call, x_callD, x_CB, x_M0, x_M, x_neg, x_isi, x_iL, x_iT, asL_lst, asT_tup, x_gN, x_gT2, x_lc, x_lcEnd, x_lcEndM, x_lc0, nox_ok, x_yes, k_ii, k_eqS, k_eqI, k_lenL, k_lenT, k_tupL, k_tupT, k_lstT, k_lstS, k_int, at_0, at_1, at_2, at_3, toR_some, k_ixT, k_ixL, k_isNN, k_isNT, isS_S, x_dput, Res.bind_ok, Res.bind_exc, Res.bind_bad, List.getElem?_cons_zero, List.getElem?_cons_succ, List.set_cons_zero, List.set_cons_succ, List.length_cons, List.length_nil, if_true, if_false, Bool.false_eq_true, Bool.not_true, Bool.not_false, cond_true, cond_false, small, Nat.reduceAdd, Nat.reduceLeDiff, decide_true, decide_false, reduceCtorEq, reduceIte, a4]) (by omega)
  simp only [List.map_nil, List.nil_append] at q5
  rw [u__law_drawn]
  simp only [b__law_drawn, fin_rt, fin_nx, fin_exc, x_cons, thenS_nx, thenS_rt, thenS_ct, thenS_exc, x_nil, x_set, x_expr, x_ret, x_if, x_cont, x_asg, x_par, x_par3, x_for, x_loop0, outL_nx, outL_ct, outL_rt, x_raise, x_var, getV_some, x_c, x_e2, x_eT, asB_bl, x_and, x_or, x_not, x_vand, x_vor, x_vnot, x_ifE, x_chain, x_anil, x_acons, x_tup, x_lst, x_lstM, x_call, x_callD, x_CB, x_M0, x_M, x_neg, x_isi, x_iL, x_iT, asL_lst, asT_tup, x_gN, x_gT2, x_lc, x_lcEnd, x_lcEndM, x_lc0, nox_ok, x_yes, k_ii, k_eqS, k_eqI, k_lenL, k_lenT, k_tupL, k_tupT, k_lstT, k_lstS, k_int, at_0, at_1, at_2, at_3, toR_some, k_ixT, k_ixL, k_isNN, k_isNT, isS_S, x_dput, Res.bind_ok, Res.bind_exc, Res.bind_bad, List.getElem?_cons_zero, List.getElem?_cons_succ, List.set_cons_zero, List.set_cons_succ, List.length_cons, List.length_nil, if_true, if_false, Bool.false_eq_true, Bool.not_true, Bool.not_false, cond_true, cond_false, small, Nat.reduceAdd, Nat.reduceLeDiff, decide_true, decide_false, reduceCtorEq, reduceIte, r1, c5, q5, b4]
  rfl
/-! ### blanks -/
def bls (n : Nat) : Str := repS n " "
theorem bls_l : ∀ n, n < 5 → (bls n).cps.toList = List.replicate n 32 := by decide +kernel
theorem bls_n : ∀ n, n < 5 → (bls n).length = n := by decide +kernel
theorem blank_ok {n : Nat} (h : n < 5) : kRepS (.str " ") (.int n) st = .ok (.str (bls n)) st := by
  have h1 : (" " : Str).length = 1 := rfl
  show (if (" " : Str).length ≤ 1000 ∧ -1000 ≤ (n : Int) ∧ (n : Int) ≤ 1000 then Res.ok (W.str (repS n " ")) st else .bad) = _
  rw [if_pos ⟨by rw [h1]; omega, by omega, by omega⟩]
  rfl
def Ends (x : Str) (ws : List Str) : Prop := ∀ r, tk [] (x.cps.toList ++ r) = (ws.map fun w => w.cps.toList) ++ tk [] r
theorem tk_blanks (r : List Nat) : ∀ n, tk [] (List.replicate n 32 ++ r) = tk [] r
  | 0 => rfl
  | n + 1 => by
    rw [List.replicate_succ, List.cons_append, tk_sp, tk_blanks r n]
    rfl
theorem Ends.start {n : Nat} (h : n < 5) : Ends (bls n) [] := fun r => by
  rw [bls_l n h, tk_blanks]
  rfl
theorem Ends.word {x w : Str} {ws : List Str} {n : Nat} (h : Ends x ws) (hw : okw w = true) (hn : n < 4) : Ends (x ++ w ++ bls (1 + n)) (ws ++ [w]) := fun r => by
  have e : (x ++ w ++ bls (1 + n)).cps.toList ++ r = x.cps.toList ++ (w.cps.toList ++ 32 :: (List.replicate n 32 ++ r)) := by
    rw [Str.cps_append, Str.cps_append, Array.toList_append, Array.toList_append, bls_l (1 + n) (by omega), show 1 + n = n + 1 by omega, List.replicate_succ]
    simp
  rw [e, h, tk_free _ _ _ (okw_free hw), tk_sp, tk_blanks, List.nil_append, emit_ok hw]
  simp
theorem Ends.reads {x : Str} {ws : List Str} (h : Ends x ws) : Reads x ws := by
  have := h []
  rw [List.append_nil] at this
  unfold Reads
  rw [this]
  simp [tk, emit]
theorem len_app (x y : Str) : (x ++ y).length = x.length + y.length := by
  show (x ++ y).cps.size = _
  rw [Str.cps_append, Array.size_append]
  rfl
theorem addS_ok {x y : Str} (h : x.length + y.length ≤ 1000000) : kAddS (.str x) (.str y) st = .ok (.str (x ++ y)) st := if_pos h
theorem spread_loop {b : Option W} : ∀ (ws acc : List Str) (x : Str) (y : Option W) (B : Nat) (st : Store), (∀ w ∈ ws, okw w = true) → Ends x acc → x.length + 13 * ws.length ≤ 100000 → SV P cells B st → B + ws.length < 2 ^ 58 →
    ∃ x' y' st', Ends x' (acc ++ ws) ∧ x'.length ≤ x.length + 13 * ws.length ∧ SV P cells (B + ws.length) st' ∧ Mv st st' ∧
      sLoop (gN 3) (sSet 2 (e2 kAddS (e2 kAddS (eVar 2) (eVar 3)) (e2 kRepS (eC (.str " ")) (e2 kAdd (eC (.int 1)) (eCall 2 f__law_draw (aCons (eVar 0) (aCons (eC (.int 3)) aNil))))))) (ws.map W.str) [some (.obj 1), b, some (.str x), y] st = .ok (.nx [some (.obj 1), b, some (.str x'), y']) st'
  | [], acc, x, y, B, st, _, he, hl, h, _ => ⟨x, y, st, by rw [List.append_nil]; exact he, by omega, h.up (by omega), .refl, x_loop0⟩
  | w :: ws, acc, x, y, B, st, hw, he, hl, h, hB => by
    simp only [List.length_cons] at hl hB
    have w0 := hw w (List.mem_cons_self ..)
    have w1 := okw_len w0
    obtain ⟨n, st1, a1, a2, a3, a4⟩ := draw3 (i := 3) (n := 3) rfl h (by omega) (by omega) (by omega)
    have l1 := bls_n (1 + n) (by omega)
    obtain ⟨x', y', st', c1, c2, c3, c4, c5⟩ := spread_loop (b := b) ws (acc ++ [w]) (x ++ w ++ bls (1 + n)) (some (.str w)) (B + 1) st1 (fun z hz => hw z (List.mem_cons_of_mem _ hz)) (he.word w0 (by omega)) (by rw [len_app, len_app]; omega) a2 (by omega)
    rw [len_app, len_app] at c2
    refine ⟨x', y', st', by simpa using c1, by simp only [List.length_cons]; omega, c3.up (by simp only [List.length_cons]; omega), a3.trans c4, ?_⟩
    have e : (1 : Int) + (n : Nat) = ((1 + n : Nat) : Int) := by omega
    have e1 := blank_ok (st := st1) (n := 1 + n) (by omega)
    have e2' := addS_ok (st := st) (x := x) (y := w) (by omega)
    have e3 := addS_ok (st := st1) (x := x ++ w) (y := bls (1 + n)) (by rw [len_app]; omega)
    rw [List.map_cons, x_loop]
    simp only [fin_rt, fin_nx, fin_exc, x_cons, thenS_nx, thenS_rt, thenS_ct, thenS_exc, x_nil, x_set, x_expr, x_ret, x_if, x_cont, x_asg, x_par, x_par3, x_for, x_loop0, outL_nx, outL_ct, outL_rt, x_raise, x_var, getV_some, x_c, x_e2, x_eT, asB_bl, x_and, x_or, x_not, x_vand, x_vor, x_vnot, x_ifE, x_chain, x_anil, x_acons, x_tup, x_lst, x_lstM, x_call, x_callD, x_CB, x_M0, x_M, x_neg, x_isi, x_iL, x_iT, asL_lst, asT_tup, x_gN, x_gT2, x_lc, x_lcEnd, x_lcEndM, x_lc0, nox_ok, x_yes, k_ii, k_eqS, k_eqI, k_lenL, k_lenT, k_tupL, k_tupT, k_lstT, k_lstS, k_int, at_0, at_1, at_2, at_3, toR_some, k_ixT, k_ixL, k_isNN, k_isNT, isS_S, x_dput, Res.bind_ok, Res.bind_exc, Res.bind_bad, List.getElem?_cons_zero, List.getElem?_cons_succ, List.set_cons_zero, List.set_cons_succ, List.length_cons, List.length_nil, if_true, if_false, Bool.false_eq_true, Bool.not_true, Bool.not_false, cond_true, cond_false, small, Nat.reduceAdd, Nat.reduceLeDiff, decide_true, decide_false, reduceCtorEq, reduceIte, e2', a4, e, e1, e3, c5]
theorem spread_ok {ws : List Str} (h : SV P cells B st) (hB : B < 2 ^ 57) (hw : ∀ w ∈ ws, okw w = true) (hl : ws.length < 400) : ∃ x st', Reads x ws ∧ x.length ≤ 100000 ∧ SV P cells (B + 600) st' ∧ Mv st st' ∧ f__law_spread_out [.obj 1, wS ws] st = .ok (.str x) st' := by
  obtain ⟨n, st1, a1, a2, a3, a4⟩ := draw3 (i := 3) (n := 3) rfl h (by omega) (by omega) (by omega)
  have l1 := bls_n n (by omega)
  obtain ⟨x', y', st', c1, c2, c3, c4, c5⟩ := spread_loop (b := some (wS ws)) ws [] (bls n) none (B + 1) st1 hw (.start (by omega)) (by omega) a2 (by omega)
  refine ⟨x', st', by simpa using c1.reads, by omega, c3.up (by omega), a3.trans c4, ?_⟩
  have e1 := blank_ok (st := st1) (n := n) (by omega)
  rw [u__law_spread_out]
  simp only [b__law_spread_out, fin_rt, fin_nx, fin_exc, x_cons, thenS_nx, thenS_rt, thenS_ct, thenS_exc, x_nil, x_set, x_expr, x_ret, x_if, x_cont, x_asg, x_par, x_par3, x_for, x_loop0, outL_nx, outL_ct, outL_rt, x_raise, x_var, getV_some, x_c, x_e2, x_eT, asB_bl, x_and, x_or, x_not, x_vand, x_vor, x_vnot, x_ifE, x_chain, x_anil, x_acons, x_tup, x_lst, x_lstM, x_call, x_callD, x_CB, x_M0, x_M, x_neg, x_isi, x_iL, x_iT, asL_lst, asT_tup, x_gN, x_gT2, x_lc, x_lcEnd, x_lcEndM, x_lc0, nox_ok, x_yes, k_ii, k_eqS, k_eqI, k_lenL, k_lenT, k_tupL, k_tupT, k_lstT, k_lstS, k_int, at_0, at_1, at_2, at_3, toR_some, k_ixT, k_ixL, k_isNN, k_isNT, isS_S, x_dput, Res.bind_ok, Res.bind_exc, Res.bind_bad, List.getElem?_cons_zero, List.getElem?_cons_succ, List.set_cons_zero, List.set_cons_succ, List.length_cons, List.length_nil, if_true, if_false, Bool.false_eq_true, Bool.not_true, Bool.not_false, cond_true, cond_false, small, Nat.reduceAdd, Nat.reduceLeDiff, decide_true, decide_false, reduceCtorEq, reduceIte, a4, e1, c5]
end K85
end
section
set_option Elab.async false
set_option linter.all false
set_option maxRecDepth 100000
set_option maxHeartbeats 1000000
/-! M23: what is refused. -/
namespace K85
open PySem Vl
variable {P : Addr} {cells : List Int} {B : Nat} {st st' : Store}
def stOf {α : Type} : Res α → Store
  | .ok _ st => st
  | .exc _ _ st => st
  | .bad => []
theorem three_st (h : st.length = 3) : ∃ a b c, st = [a, b, c] := by
  match st, h with
  | [a, b, c], _ => exact ⟨a, b, c, rfl⟩
abbrev onE : W := .tup [.str "one", .tup []]
def odds : List W := [.non, .tup [.tup []], .lst [.tup [], onE]]
theorem odd_ok {w : W} (hw : w ∈ odds) : f_program_text [w] st = .exc "BadProgram" [("place", .tup [])] st := by
  unfold odds at hw
  simp only [List.mem_cons, List.not_mem_nil, or_false] at hw
  rcases hw with rfl | rfl | rfl <;> kernel_rfl
abbrev innE : W := .tup [.str "one", .tup [onE]]
def bads : List W := [.non, .tup [.str "one"], .tup [.str "send", .int 0, .int 1], .tup [.str "take", .int 0, .int 10, onE], innE]
theorem grew3 {a b c : MO} {s : Store} (h1 : s.take 3 = [a, b, c]) (h2 : (s.drop 3).all (fun m => !m.isTab) = true) : Grew [a, b, c] s := ⟨s.drop 3, by rw [← h1, List.take_append_drop], h2⟩
theorem bad_ok {w : W} (hw : w ∈ bads) (h : st.length = 3) : ∃ (b : Bool) (st' : Store), kEqD false w innE st = .ok (.bl b) st ∧ Grew st st' ∧ f_program_text [.tup [.tup [], w]] st = .exc "BadPiece" [("path", cond b (.tup [.int 1, .int 1, .int 0]) (.tup [.int 1]))] st' := by
  obtain ⟨x, y, z, rfl⟩ := three_st h
  unfold bads at hw
  simp only [List.mem_cons, List.not_mem_nil, or_false] at hw
  rcases hw with rfl | rfl | rfl | rfl | rfl
  · exact ⟨false, stOf (f_program_text [.tup [.tup [], .non]] [x, y, z]), by kernel_rfl, grew3 (by kernel_rfl) (by kernel_rfl), by kernel_rfl⟩
  · exact ⟨false, stOf (f_program_text [.tup [.tup [], .tup [.str "one"]]] [x, y, z]), by kernel_rfl, grew3 (by kernel_rfl) (by kernel_rfl), by kernel_rfl⟩
  · exact ⟨false, stOf (f_program_text [.tup [.tup [], .tup [.str "send", .int 0, .int 1]]] [x, y, z]), by kernel_rfl, grew3 (by kernel_rfl) (by kernel_rfl), by kernel_rfl⟩
  · exact ⟨false, stOf (f_program_text [.tup [.tup [], .tup [.str "take", .int 0, .int 10, onE]]] [x, y, z]), by kernel_rfl, grew3 (by kernel_rfl) (by kernel_rfl), by kernel_rfl⟩
  · exact ⟨true, stOf (f_program_text [.tup [.tup [], innE]] [x, y, z]), by kernel_rfl, grew3 (by kernel_rfl) (by kernel_rfl), by kernel_rfl⟩
def notT : List W := [.non, .int 5, .lst [.str "(", .str ")"], .tup [.str "( )"]]
theorem notT_ok {w : W} (hw : w ∈ notT) : f_read_program [w] st = .exc "BadText" [("word", .int 0), ("line", .int 0)] st := by
  unfold notT at hw
  simp only [List.mem_cons, List.not_mem_nil, or_false] at hw
  rcases hw with rfl | rfl | rfl | rfl <;> kernel_rfl
theorem from_nil : f_program_from [wS [], .int 0, .int 0] st = .exc "BadText" [("word", .int 0), ("line", .int 0)] (st ++ [.L []]) := by kernel_rfl
theorem blank_read {n : Nat} (h : n < 5) : f_read_program [.str (bls n)] st = .exc "BadText" [("word", .int 0), ("line", .int 0)] (st ++ [.L []]) := by
  have e1 := words_of_reads (st := st) (Ends.start h).reads (by rw [bls_n n h]; omega)
  rw [u_read_program]
  simp only [b_read_program, fin_rt, fin_nx, fin_exc, x_cons, thenS_nx, thenS_rt, thenS_ct, thenS_exc, x_nil, x_set, x_expr, x_ret, x_if, x_cont, x_asg, x_par, x_par3, x_for, x_loop0, outL_nx, outL_ct, outL_rt, x_raise, x_var, getV_some, x_c, x_e2, x_eT, asB_bl, x_and, x_or, x_not, x_vand, x_vor, x_vnot, x_ifE, x_chain, x_anil, x_acons, x_tup, x_lst, x_lstM, x_call, x_callD, x_CB, x_M0, x_M, x_neg, x_isi, x_iL, x_iT, asL_lst, asT_tup, x_gN, x_gT2, x_lc, x_lcEnd, x_lcEndM, x_lc0, nox_ok, x_yes, k_ii, k_eqS, k_eqI, k_lenL, k_lenT, k_tupL, k_tupT, k_lstT, k_lstS, k_int, at_0, at_1, at_2, at_3, toR_some, k_ixT, k_ixL, k_isNN, k_isNT, isS_S, x_dput, Res.bind_ok, Res.bind_exc, Res.bind_bad, List.getElem?_cons_zero, List.getElem?_cons_succ, List.set_cons_zero, List.set_cons_succ, List.length_cons, List.length_nil, if_true, if_false, Bool.false_eq_true, Bool.not_true, Bool.not_false, cond_true, cond_false, small, Nat.reduceAdd, Nat.reduceLeDiff, decide_true, decide_false, reduceCtorEq, reduceIte, ty_str, is_ss, e1, from_nil]
abbrev tellT : W := .lst [.str "BadText", .int 0, .int 0]
abbrev tellP : W := .lst [.str "BadProgram", .tup []]
abbrev tellQ (b : Bool) : W := .lst [.str "BadPiece", cond b (.tup [.int 1, .int 1, .int 0]) (.tup [.int 1])]
theorem like1 : f__law_like [tellT, tellT] st = .ok (.bl true) st := by kernel_rfl
theorem like2 : f__law_like [tellP, tellP] st = .ok (.bl true) st := by kernel_rfl
theorem like3 (b : Bool) : f__law_like [tellQ b, tellQ b] st = .ok (.bl true) st := by cases b <;> kernel_rfl
theorem caught_ok {f : EvE} {e : Env'} {c : Str} {fs : List (Str × W)} {w : W} (ht : okTabs P tQ st = true) (hf : f e st = .exc c fs st') (hc : caughtF tKinds (.exc c fs st') = .ok w st') : eCaught P tQ tKinds f e st = .ok w st' := by
  unfold eCaught
  rw [if_pos ht, hf, hc]
theorem cT : caughtF tKinds (.exc "BadText" [("word", .int 0), ("line", .int 0)] st) = .ok tellT st := by kernel_rfl
theorem cP' : caughtF tKinds (.exc "BadProgram" [("place", .tup [])] st) = .ok tellP st := by kernel_rfl
theorem cQ (b : Bool) : caughtF tKinds (.exc "BadPiece" [("path", cond b (.tup [.int 1, .int 1, .int 0]) (.tup [.int 1]))] st) = .ok (tellQ b) st := by cases b <;> kernel_rfl
theorem if_ok {t : EvT} {fa fb : EvE} {e : Env'} {b : Bool} {x y : W} (ht : t e st = .ok b st) (ha : fa e st = .ok x st) (hb : fb e st = .ok y st) : eIf t fa fb e st = .ok (cond b x y) st := by
  unfold eIf
  rw [ht]
  cases b
  · exact hb
  · exact ha
theorem refused_ok (h : SV P cells B st) (h3 : st.length = 3) (hB : B < 2 ^ 50) : ∃ st', SV P cells (B + 4) st' ∧ f__law_refused P [.obj 1] st = .ok (.bl true) st' := by
  obtain ⟨w1, st1, a1, a2, a3, a4⟩ := of_ok (l := odds) h (by omega) (by decide) (by decide)
  have l1 : st1.length = 3 := by rw [a3.2, h3]
  have o1 := odd_ok (st := st1) a1
  obtain ⟨w2, st2, b1, b2, b3, b4⟩ := of_ok (l := bads) a2 (by omega) (by decide) (by decide)
  obtain ⟨b, st3, k1, k2, k3⟩ := bad_ok b1 (by rw [b3.2, l1])
  have v3 := b2.grew k2
  obtain ⟨w3, st4, c1, c2, c3, c4⟩ := of_ok (l := notT) v3 (by omega) (by decide) (by decide)
  have o3 := notT_ok (st := st4) c1
  obtain ⟨n, st5, d1, d2, d3, d4⟩ := draw3 (i := 4) (n := 4) rfl c2 (by omega) (by omega) (by omega)
  have e5 := blank_ok (st := st5) (n := n) (by omega)
  have e6 := blank_read (st := st5) (n := n) (by omega)
  refine ⟨st5 ++ [.L []], (d2.grew (Grew.refl.push rfl)).up (by omega), ?_⟩
  simp only [odds] at a4
  simp only [bads] at b4
  simp only [notT] at c4
  rw [u__law_refused]
  have q1 : ∀ f1 f2 f3 f4 f6 f7, eCaught P tQ tKinds (eCall 1 f_program_text (aCons (eVar 5) aNil)) [f6, f1, f2, f3, f4, some w1, f7] st1 = .ok tellP st1 := fun _ _ _ _ _ _ => caught_ok a2.tabs (by simp only [fin_rt, fin_nx, fin_exc, x_cons, thenS_nx, thenS_rt, thenS_ct, thenS_exc, x_nil, x_set, x_expr, x_ret, x_if, x_cont, x_asg, x_par, x_par3, x_for, x_loop0, outL_nx, outL_ct, outL_rt, x_raise, x_var, getV_some, x_c, x_e2, x_eT, asB_bl, x_and, x_or, x_not, x_vand, x_vor, x_vnot, x_ifE, x_chain, x_anil, x_acons, x_tup, x_lst, x_lstM, x_call, x_callD, x_CB, x_M0, x_M, x_neg, x_isi, x_iL, x_iT, asL_lst, asT_tup, x_gN, x_gT2, x_lc, x_lcEnd, x_lcEndM, x_lc0, nox_ok, x_yes, k_ii, k_eqS, k_eqI, k_lenL, k_lenT, k_tupL, k_tupT, k_lstT, k_lstS, k_int, at_0, at_1, at_2, at_3, toR_some, k_ixT, k_ixL, k_isNN, k_isNT, isS_S, x_dput, Res.bind_ok, Res.bind_exc, Res.bind_bad, List.getElem?_cons_zero, List.getElem?_cons_succ, List.set_cons_zero, List.set_cons_succ, List.length_cons, List.length_nil, if_true, if_false, Bool.false_eq_true, Bool.not_true, Bool.not_false, cond_true, cond_false, small, Nat.reduceAdd, Nat.reduceLeDiff, decide_true, decide_false, reduceCtorEq, reduceIte, o1]) cP'
  have q2 : ∀ f1 f2 f3 f4 f6 f7, eCaught P tQ tKinds (eCall 1 f_program_text (aCons (eTup (aCons (eTup aNil) (aCons (eVar 6) aNil))) aNil)) [f6, f1, f2, f3, f4, f7, some w2] st2 = .ok (tellQ b) st3 := fun _ _ _ _ _ _ => caught_ok b2.tabs (by simp only [fin_rt, fin_nx, fin_exc, x_cons, thenS_nx, thenS_rt, thenS_ct, thenS_exc, x_nil, x_set, x_expr, x_ret, x_if, x_cont, x_asg, x_par, x_par3, x_for, x_loop0, outL_nx, outL_ct, outL_rt, x_raise, x_var, getV_some, x_c, x_e2, x_eT, asB_bl, x_and, x_or, x_not, x_vand, x_vor, x_vnot, x_ifE, x_chain, x_anil, x_acons, x_tup, x_lst, x_lstM, x_call, x_callD, x_CB, x_M0, x_M, x_neg, x_isi, x_iL, x_iT, asL_lst, asT_tup, x_gN, x_gT2, x_lc, x_lcEnd, x_lcEndM, x_lc0, nox_ok, x_yes, k_ii, k_eqS, k_eqI, k_lenL, k_lenT, k_tupL, k_tupT, k_lstT, k_lstS, k_int, at_0, at_1, at_2, at_3, toR_some, k_ixT, k_ixL, k_isNN, k_isNT, isS_S, x_dput, Res.bind_ok, Res.bind_exc, Res.bind_bad, List.getElem?_cons_zero, List.getElem?_cons_succ, List.set_cons_zero, List.set_cons_succ, List.length_cons, List.length_nil, if_true, if_false, Bool.false_eq_true, Bool.not_true, Bool.not_false, cond_true, cond_false, small, Nat.reduceAdd, Nat.reduceLeDiff, decide_true, decide_false, reduceCtorEq, reduceIte, k3]) (cQ b)
  have q3 : ∀ f1 f2 f3 f4 f6 f7, eCaught P tQ tKinds (eCall 1 f_read_program (aCons (eVar 3) aNil)) [f6, f1, f2, some w3, f4, f7, f3] st4 = .ok tellT st4 := fun _ _ _ _ _ _ => caught_ok c2.tabs (by simp only [fin_rt, fin_nx, fin_exc, x_cons, thenS_nx, thenS_rt, thenS_ct, thenS_exc, x_nil, x_set, x_expr, x_ret, x_if, x_cont, x_asg, x_par, x_par3, x_for, x_loop0, outL_nx, outL_ct, outL_rt, x_raise, x_var, getV_some, x_c, x_e2, x_eT, asB_bl, x_and, x_or, x_not, x_vand, x_vor, x_vnot, x_ifE, x_chain, x_anil, x_acons, x_tup, x_lst, x_lstM, x_call, x_callD, x_CB, x_M0, x_M, x_neg, x_isi, x_iL, x_iT, asL_lst, asT_tup, x_gN, x_gT2, x_lc, x_lcEnd, x_lcEndM, x_lc0, nox_ok, x_yes, k_ii, k_eqS, k_eqI, k_lenL, k_lenT, k_tupL, k_tupT, k_lstT, k_lstS, k_int, at_0, at_1, at_2, at_3, toR_some, k_ixT, k_ixL, k_isNN, k_isNT, isS_S, x_dput, Res.bind_ok, Res.bind_exc, Res.bind_bad, List.getElem?_cons_zero, List.getElem?_cons_succ, List.set_cons_zero, List.set_cons_succ, List.length_cons, List.length_nil, if_true, if_false, Bool.false_eq_true, Bool.not_true, Bool.not_false, cond_true, cond_false, small, Nat.reduceAdd, Nat.reduceLeDiff, decide_true, decide_false, reduceCtorEq, reduceIte, o3]) cT
  have q4 : ∀ f1 f2 f3 f4 f6 f7, eCaught P tQ tKinds (eCall 1 f_read_program (aCons (eVar 4) aNil)) [f6, f1, f2, f3, some (.str (bls n)), f7, f4] st5 = .ok tellT (st5 ++ [.L []]) := fun _ _ _ _ _ _ => caught_ok d2.tabs (by simp only [fin_rt, fin_nx, fin_exc, x_cons, thenS_nx, thenS_rt, thenS_ct, thenS_exc, x_nil, x_set, x_expr, x_ret, x_if, x_cont, x_asg, x_par, x_par3, x_for, x_loop0, outL_nx, outL_ct, outL_rt, x_raise, x_var, getV_some, x_c, x_e2, x_eT, asB_bl, x_and, x_or, x_not, x_vand, x_vor, x_vnot, x_ifE, x_chain, x_anil, x_acons, x_tup, x_lst, x_lstM, x_call, x_callD, x_CB, x_M0, x_M, x_neg, x_isi, x_iL, x_iT, asL_lst, asT_tup, x_gN, x_gT2, x_lc, x_lcEnd, x_lcEndM, x_lc0, nox_ok, x_yes, k_ii, k_eqS, k_eqI, k_lenL, k_lenT, k_tupL, k_tupT, k_lstT, k_lstS, k_int, at_0, at_1, at_2, at_3, toR_some, k_ixT, k_ixL, k_isNN, k_isNT, isS_S, x_dput, Res.bind_ok, Res.bind_exc, Res.bind_bad, List.getElem?_cons_zero, List.getElem?_cons_succ, List.set_cons_zero, List.set_cons_succ, List.length_cons, List.length_nil, if_true, if_false, Bool.false_eq_true, Bool.not_true, Bool.not_false, cond_true, cond_false, small, Nat.reduceAdd, Nat.reduceLeDiff, decide_true, decide_false, reduceCtorEq, reduceIte, e6]) cT
  have x3 := like3 (st := st3) b
  cases b with
  | false =>
    simp only [tellQ, cond_false] at q2 x3
    simp only [b__law_refused, fin_rt, fin_nx, fin_exc, x_cons, thenS_nx, thenS_rt, thenS_ct, thenS_exc, x_nil, x_set, x_expr, x_ret, x_if, x_cont, x_asg, x_par, x_par3, x_for, x_loop0, outL_nx, outL_ct, outL_rt, x_raise, x_var, getV_some, x_c, x_e2, x_eT, asB_bl, x_and, x_or, x_not, x_vand, x_vor, x_vnot, x_ifE, x_chain, x_anil, x_acons, x_tup, x_lst, x_lstM, x_call, x_callD, x_CB, x_M0, x_M, x_neg, x_isi, x_iL, x_iT, asL_lst, asT_tup, x_gN, x_gT2, x_lc, x_lcEnd, x_lcEndM, x_lc0, nox_ok, x_yes, k_ii, k_eqS, k_eqI, k_lenL, k_lenT, k_tupL, k_tupT, k_lstT, k_lstS, k_int, at_0, at_1, at_2, at_3, toR_some, k_ixT, k_ixL, k_isNN, k_isNT, isS_S, x_dput, Res.bind_ok, Res.bind_exc, Res.bind_bad, List.getElem?_cons_zero, List.getElem?_cons_succ, List.set_cons_zero, List.set_cons_succ, List.length_cons, List.length_nil, if_true, if_false, Bool.false_eq_true, Bool.not_true, Bool.not_false, cond_true, cond_false, small, Nat.reduceAdd, Nat.reduceLeDiff, decide_true, decide_false, reduceCtorEq, reduceIte, a4, q1, like2, b4, k1, q2, x3, c4, q3, like1, d4, e5, q4]
  | true =>
    simp only [tellQ, cond_true] at q2 x3
    simp only [b__law_refused, fin_rt, fin_nx, fin_exc, x_cons, thenS_nx, thenS_rt, thenS_ct, thenS_exc, x_nil, x_set, x_expr, x_ret, x_if, x_cont, x_asg, x_par, x_par3, x_for, x_loop0, outL_nx, outL_ct, outL_rt, x_raise, x_var, getV_some, x_c, x_e2, x_eT, asB_bl, x_and, x_or, x_not, x_vand, x_vor, x_vnot, x_ifE, x_chain, x_anil, x_acons, x_tup, x_lst, x_lstM, x_call, x_callD, x_CB, x_M0, x_M, x_neg, x_isi, x_iL, x_iT, asL_lst, asT_tup, x_gN, x_gT2, x_lc, x_lcEnd, x_lcEndM, x_lc0, nox_ok, x_yes, k_ii, k_eqS, k_eqI, k_lenL, k_lenT, k_tupL, k_tupT, k_lstT, k_lstS, k_int, at_0, at_1, at_2, at_3, toR_some, k_ixT, k_ixL, k_isNN, k_isNT, isS_S, x_dput, Res.bind_ok, Res.bind_exc, Res.bind_bad, List.getElem?_cons_zero, List.getElem?_cons_succ, List.set_cons_zero, List.set_cons_succ, List.length_cons, List.length_nil, if_true, if_false, Bool.false_eq_true, Bool.not_true, Bool.not_false, cond_true, cond_false, small, Nat.reduceAdd, Nat.reduceLeDiff, decide_true, decide_false, reduceCtorEq, reduceIte, a4, q1, like2, b4, k1, q2, x3, c4, q3, like1, d4, e5, q4]
end K85
end
section
set_option Elab.async false
set_option linter.all false
set_option maxRecDepth 100000
set_option maxHeartbeats 1000000
/-! M24: the law. -/
namespace K85
open PySem Vl
variable {P : Addr} {cells : List Int} {B : Nat} {st st' : Store} {D : List Dn} {m : Pc}
theorem join_all : ∀ ws : List Str, (∀ w ∈ ws, w.cps.all (fun c => decide (c < 1114112)) = true) → (Str.join " " ws).cps.all (fun c => decide (c < 1114112)) = true
  | [], _ => by decide +kernel
  | [w], h => h w (List.mem_cons_self ..)
  | p :: q :: ps, h => by
    have ih := join_all (q :: ps) fun z hz => h z (List.mem_cons_of_mem _ hz)
    have hp := h p (List.mem_cons_self ..)
    have e0 : (Str.join " " (p :: q :: ps)).cps.toList = p.cps.toList ++ 32 :: (Str.join " " (q :: ps)).cps.toList := by
      show (p ++ " " ++ Str.join " " (q :: ps)).cps.toList = _
      rw [Str.cps_append, Str.cps_append, Array.toList_append, Array.toList_append, List.append_assoc]
      rfl
    rw [← Array.all_toList] at ih hp ⊢
    rw [e0, List.all_append, List.all_cons, hp, ih]
    decide
theorem PrV.ok1 (h : PrV D m) : ok1 (prX D m) = true := by
  have := join_all (prT D m) fun w hw => okw_all (h.words w hw)
  unfold K85.ok1 PyData.canLay0
  exact this
theorem like_both (h : PrV D m) : f__law_like [.lst [.str (prX D m), prW D m], .lst [.str (prX D m), prW D m]] st = .ok (.bl true) st := by
  obtain ⟨d, e, g⟩ := pr_dat h
  have xl := h.xlen
  have g2 := GD.lst (GL.cons (GD.str (a := 32) (n := 20000) h.ok1 xl) (GL.cons g (GL.nil (n := 0))))
  have e2' : dat (.lst [.str (prX D m), prW D m]) = some (.list [.str (prX D m), d]) := by
    have q : dats [.str (prX D m), prW D m] = some [.str (prX D m), d] := dats_cons rfl (dats_cons e rfl)
    unfold dat
    rw [q]
    rfl
  exact like_ok rfl rfl e2' e2' rfl rfl (g2.up (by omega) (by omega)).okD
theorem like_one (h : PrV D m) : f__law_like [prW D m, prW D m] st = .ok (.bl true) st := by
  obtain ⟨d, e, g⟩ := pr_dat h
  exact like_ok rfl rfl e e rfl rfl (g.up (by omega) (by omega)).okD
def turnB : EvS := (sCons (sSet 3 (eCall 1 f__law_drawn (aCons (eVar 1) aNil))) (sCons (sSet 4 (eCall 1 f__law_words (aCons (eVar 3) aNil))) (sCons (sSet 5 (eM isS kJoin (eC (.str " ")) (aCons (eVar 4) aNil))) (sCons (sIf (bNot (eT (eCall 2 f__law_like (aCons (eLst (aCons (eCall 1 f_program_text (aCons (eVar 3) aNil)) (aCons (eCall 1 f_read_program (aCons (eVar 5) aNil)) aNil))) (aCons (eLst (aCons (eVar 5) (aCons (eVar 3) aNil))) aNil))))) (sRet (eC (.bl false))) sNil) (sIf (bNot (eT (eCall 2 f__law_like (aCons (eCall 1 f_read_program (aCons (eCall 2 f__law_spread_out (aCons (eVar 1) (aCons (eVar 4) aNil))) aNil)) (aCons (eVar 3) aNil))))) (sRet (eC (.bl false))) sNil)))))
theorem turn_ok (h : SV P cells B st) (hB : B < 2 ^ 56) (x0 x2 x3 x4 x5 x6 x7 : Option W) : ∃ st' y3 y4 y5, SV P cells (B + 1200) st' ∧ turnB [x0, some (.obj 1), x2, x3, x4, x5, x6, x7] st = .ok (.nx [x0, some (.obj 1), x2, y3, y4, y5, x6, x7]) st' := by
  obtain ⟨D, m, st1, a1, a2, a3, a4⟩ := ldrawn_ok h (by omega)
  have e1 := law_words_ok (st := st1) a1.oks a1.nm (by have := a1.dp; omega) (by have := a1.t; omega)
  have e2' := join_ok (ws := prT D m) (st := st1) (by have := a1.lens; omega)
  obtain ⟨st2, g2, e3⟩ := program_text_ok (st := st1) a1
  obtain ⟨st3, g3, e4⟩ := read_program_ok (st := st2) a1 (reads_join a1) (by have := a1.xlen; omega)
  have e5 := like_both (st := st3) a1
  have v3 := (a2.grew g2).grew g3
  obtain ⟨x, st4, b1, b2, b3, b4, b5⟩ := spread_ok v3 (by omega) a1.words a1.t
  obtain ⟨st5, g5, e6⟩ := read_program_ok (st := st4) a1 b1 (by omega)
  have e7 := like_one (st := st5) a1
  refine ⟨st5, some (prW D m), some (wS (prT D m)), some (.str (prX D m)), (b3.grew g5).up (by omega), ?_⟩
  simp only [prX] at e3 e4 e5 ⊢
  simp only [turnB, fin_rt, fin_nx, fin_exc, x_cons, thenS_nx, thenS_rt, thenS_ct, thenS_exc, x_nil, x_set, x_expr, x_ret, x_if, x_cont, x_asg, x_par, x_par3, x_for, x_loop0, outL_nx, outL_ct, outL_rt, x_raise, x_var, getV_some, x_c, x_e2, x_eT, asB_bl, x_and, x_or, x_not, x_vand, x_vor, x_vnot, x_ifE, x_chain, x_anil, x_acons, x_tup, x_lst, x_lstM, x_call, x_callD, x_CB, x_M0, x_M, x_neg, x_isi, x_iL, x_iT, asL_lst, asT_tup, x_gN, x_gT2, x_lc, x_lcEnd, x_lcEndM, x_lc0, nox_ok, x_yes, k_ii, k_eqS, k_eqI, k_lenL, k_lenT, k_tupL, k_tupT, k_lstT, k_lstS, k_int, at_0, at_1, at_2, at_3, toR_some, k_ixT, k_ixL, k_isNN, k_isNT, isS_S, x_dput, Res.bind_ok, Res.bind_exc, Res.bind_bad, List.getElem?_cons_zero, List.getElem?_cons_succ, List.set_cons_zero, List.set_cons_succ, List.length_cons, List.length_nil, if_true, if_false, Bool.false_eq_true, Bool.not_true, Bool.not_false, cond_true, cond_false, small, Nat.reduceAdd, Nat.reduceLeDiff, decide_true, decide_false, reduceCtorEq, reduceIte, a4, e1, e2', e3, e4, e5, b5, e6, e7]
def exD : List Dn := [([0], .pre .take 0 1 (.call 0 [1]))]
def exM : Pc := .sum false [.call 0 [2], .sum true []]
theorem exV : PrV exD exM where
  len := by decide
  ds := fun d hd => by
    rw [List.mem_singleton.mp hd]
    exact {
      ok := ⟨by decide, by decide, ⟨by decide, by decide, by decide, by decide⟩, ⟨trivial, fun z => by cases z⟩, by decide⟩
      len := by decide
      dist := by decide +kernel
      chk := ⟨⟨trivial, fun z => (by cases z), fun _ => ⟨rfl, fun z => (by cases z)⟩⟩, ⟨rfl, by decide⟩, fun z => (by cases z), fun _ => ⟨rfl, fun _ => rfl⟩⟩
      dp := by decide
      fv := fun k hk => by
        rcases hk with rfl | ⟨h1, h2⟩
        · exact List.mem_singleton.mpr rfl
        · exact absurd (List.mem_singleton.mp h2) h1 }
  nm := ⟨⟨by decide, by decide⟩, trivial, trivial⟩
  rd := ⟨⟨trivial, fun z => (by cases z), ⟨trivial, Nat.zero_le _⟩, fun z => (by cases z), trivial⟩, by decide⟩
  chk := ⟨⟨by show 2 ≤ 4; decide, fun z => (by cases z), fun z => (by cases z)⟩, ⟨⟨rfl, by decide⟩, fun z => (by cases z), fun z => (by cases z)⟩, ⟨⟨by show 0 ≤ 20; decide, fun z => (by cases z), fun z => (by cases z)⟩, trivial⟩, trivial⟩
  dp := by decide
  sz := by decide
  t := by decide
theorem ex_text : prX exD exM = "def ( a ) take a b call 0 ( b ) ; [ call 0 ( c ) / ( ) ]" := by decide +kernel
theorem law_true (P : Addr) (ns : List Int) (hl : ns.length ≤ 63) : ∃ st', f_law P [.scr (ns.map W.int)] [.tab P tQ] = .ok (.bl true) st' := by
  obtain ⟨cells, st0, a1, a2, a3⟩ := begin_ok P ns hl
  obtain ⟨st1, b1, b2⟩ := refused_ok a1 a2 (by decide)
  obtain ⟨st2, y3, y4, y5, c1, c2⟩ := turn_ok b1 (by decide) (some (.scr (ns.map W.int))) (some (.int (0 : Nat))) none none none none none
  obtain ⟨st3, z3, z4, z5, d1, d2⟩ := turn_ok c1 (by decide) (some (.scr (ns.map W.int))) (some (.int (1 : Nat))) y3 y4 y5 none none
  obtain ⟨st4, u3, u4, u5, e1, e2'⟩ := turn_ok d1 (by decide) (some (.scr (ns.map W.int))) (some (.int (2 : Nat))) z3 z4 z5 none none
  obtain ⟨st5, g5, f1⟩ := program_text_ok (st := st4) exV
  have r3 : iRange (aCons (eC (.int 3)) aNil) [some (.scr (ns.map W.int)), some (.obj 1), none, none, none, none, none, none] st1 = .ok [.int (0 : Nat), .int (1 : Nat), .int (2 : Nat)] st1 := rfl
  refine ⟨st5, ?_⟩
  rw [u_law]
  have lb : b_law P = (sCons (sSet 1 (eCall 1 f__law_begin (aCons (eVar 0) aNil))) (sCons (sIf (bNot (eT (eCall 1 (f__law_refused P) (aCons (eVar 1) aNil)))) (sRet (eC (.bl false))) sNil) (sCons (sFor (iRange (aCons (eC (.int 3)) aNil)) (gN 2) turnB) (sCons (sSet 6 (eTup (aCons (eTup (aCons (eTup (aCons (eC (.int 0)) aNil)) (aCons (eTup (aCons (eC (.str "take")) (aCons (eC (.int 0)) (aCons (eC (.int 1)) (aCons (eTup (aCons (eC (.str "call")) (aCons (eC (.int 0)) (aCons (eTup (aCons (eC (.int 1)) aNil)) aNil)))) aNil))))) aNil))) aNil))) (sCons (sSet 7 (eCall 1 f_program_text (aCons (eTup (aCons (eVar 6) (aCons (eTup (aCons (eC (.str "beside")) (aCons (eTup (aCons (eTup (aCons (eC (.str "call")) (aCons (eC (.int 0)) (aCons (eTup (aCons (eC (.int 2)) aNil)) aNil)))) (aCons (eTup (aCons (eC (.str "one")) (aCons (eTup aNil) aNil))) aNil))) aNil))) aNil))) aNil))) (sRet (e2 (kEq false) (eVar 7) (eC (.str "def ( a ) take a b call 0 ( b ) ; [ call 0 ( c ) / ( ) ]"))))))))) := rfl
  have f1' : f_program_text [.tup [.tup [.tup [.tup [.int 0], .tup [.str "take", .int 0, .int 1, .tup [.str "call", .int 0, .tup [.int 1]]]]], .tup [.str "beside", .tup [.tup [.str "call", .int 0, .tup [.int 2]], .tup [.str "one", .tup []]]]]] st4 = .ok (.str (prX exD exM)) st5 := f1
  have q : decide (prX exD exM = "def ( a ) take a b call 0 ( b ) ; [ call 0 ( c ) / ( ) ]") = true := decide_eq_true ex_text
  rw [lb]
  simp only [fin_rt, fin_nx, fin_exc, x_cons, thenS_nx, thenS_rt, thenS_ct, thenS_exc, x_nil, x_set, x_expr, x_ret, x_if, x_cont, x_asg, x_par, x_par3, x_for, x_loop0, outL_nx, outL_ct, outL_rt, x_raise, x_var, getV_some, x_c, x_e2, x_eT, asB_bl, x_and, x_or, x_not, x_vand, x_vor, x_vnot, x_ifE, x_chain, x_anil, x_acons, x_tup, x_lst, x_lstM, x_call, x_callD, x_CB, x_M0, x_M, x_neg, x_isi, x_iL, x_iT, asL_lst, asT_tup, x_gN, x_gT2, x_lc, x_lcEnd, x_lcEndM, x_lc0, nox_ok, x_yes, k_ii, k_eqS, k_eqI, k_lenL, k_lenT, k_tupL, k_tupT, k_lstT, k_lstS, k_int, at_0, at_1, at_2, at_3, toR_some, k_ixT, k_ixL, k_isNN, k_isNT, isS_S, x_dput, Res.bind_ok, Res.bind_exc, Res.bind_bad, List.getElem?_cons_zero, List.getElem?_cons_succ, List.set_cons_zero, List.set_cons_succ, List.length_cons, List.length_nil, if_true, if_false, Bool.false_eq_true, Bool.not_true, Bool.not_false, cond_true, cond_false, small, Nat.reduceAdd, Nat.reduceLeDiff, decide_true, decide_false, reduceCtorEq, reduceIte, a3, b2, r3, x_loop, c2, d2, e2', f1', q]
end K85
end
set_option Elab.async false
set_option linter.all false
set_option maxRecDepth 100000
set_option maxHeartbeats 0
open PySem PySem.W PySem.Calls PyProof.Rows
theorem PySem.Challenge.cw_passednames_k85_texts_there_and_back_holds : PySem.Challenge.rw_passednames_k85_texts_there_and_back.Holds := by
  w_on; o_law
  refine HandSHeadRun.head_any (r := OpenLaw.row PySem.Challenge.rw_passednames_k85_texts_there_and_back) (q := view (OpenLaw.row PySem.Challenge.rw_passednames_k85_texts_there_and_back).prog [75]) (H := H85.hk) (ob := H85.ob) (M := 6000) (loose := H85.names) (d := HandSHeadRun.topDef (OpenLaw.row PySem.Challenge.rw_passednames_k85_texts_there_and_back).prog 75) (kwd := []) H85.ob_eq
    (by kernel_rfl) (fun s => by kernel_rfl) H85.run (by kernel_rfl) (by kernel_rfl) (by kernel_rfl) (by rfl) (by first | assumption | decide +kernel) (by decide +kernel) ⟨rfl, rfl, rfl, rfl, rfl, by decide +kernel⟩ ?hw ?hc
  case hw => w_witness2
  case hc =>
    refine Vl.walkV (l := PySem.Challenge.rw_passednames_k85_texts_there_and_back) (n := 63) (k := 35) (x := "_law_script") rfl (by decide) (by kernel_rfl) ⟨rfl, by decide, by decide⟩ ?F
    intro w mg f h Y G hmg0
    obtain ⟨K, KX, c⟩ := Y
    have hmg : mg ("law" : PySem.Str) = some (.ref f) := by
      have e : (HandSHeadRun.topDef (OpenLaw.row PySem.Challenge.rw_passednames_k85_texts_there_and_back).prog 75).name = ("law" : PySem.Str) := by kernel_rfl
      rw [← e]
      exact hmg0
    have t0 : K85.Told K mg h := ⟨c.d, c.e, KX, G⟩
    have ef : He.ga K "law" = f := by
      have := (K85.gl_law t0).symm.trans hmg
      cases this
      rfl
    subst ef
    obtain ⟨fd, F⟩ := c.d.def_ 52 (d := H85.mkD "law" 75) rfl
    have b := L2.FunD.bindsA (ps := ["_law_script"]) F fun _ _ _ _ _ _ us hl => match us, hl with | [_], _ => rfl
    exact ⟨K, KX, fd, (He.cT K ("_law_refused", none)).1, (He.cT K ("_law_refused", none)).2, K85.tQ, He.ga K, K85.f_law (He.cT K ("_law_refused", none)).2, c.nil _ (List.mem_singleton.mpr rfl), c.out _ (List.mem_singleton.mpr rfl), codeHd_of_K KX (c.hd _ (List.mem_singleton.mpr rfl)), fun s v => b s [v] rfl, fun ns hl => K85.law_true _ ns hl, fun base hb hn TB => K85.ok_law ⟨c.d, c.e, hb, hn⟩ TB F⟩
