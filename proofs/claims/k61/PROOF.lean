import PyProof.Rows.All
import Wide.All
import OpenK.AllK
import Wide.FinOn
import HandS.ForMost
import HandS.Gcd
import HandS.Wide
import HandS.WideBits
import HandS.Zip
import HandS.Rev
import HandS.Small
import HandS.EndBits
import HandS.TupAny
import HandS.TupLe
import HandS.Deep
import HandS.IsInst
import HandS.SortInts
import HandS.SortRule
import HandS.Style
import HandS.Dict
import PySem.Challenge.RW_divisorhouse_k61_whole_figures_in_other
set_option Elab.async false
set_option linter.all false
set_option maxRecDepth 100000
set_option maxHeartbeats 4000000
/-! A small layer over HandS: pure values for what the heap holds, owned lists, one judgement for expressions and statements. -/
namespace Z
open PySem PySem.Spec PyProof.Rows L2

abbrev D := PyData
abbrev Fz := Addr → Prop

/-- a list of the written part -/
def KL (K : PySem.W.Frag) (a : Addr) (xs : List V) : Prop :=
  ∃ (o : Obj) (its : Array Value) (n : Nat), K.lookup a = some o ∧ o.cls = .type "list" ∧ o.dict = none ∧ o.data = .seq its n ∧ its.size ≤ sizeLine ∧ Vals xs its.toList
def KT (K : PySem.W.Frag) (a : Addr) (xs : List V) : Prop :=
  ∃ (o : Obj) (its : Array Value) (n : Nat), K.lookup a = some o ∧ o.cls = .type "tuple" ∧ o.data = .seq its n ∧ its.size ≤ sizeLine ∧ Vals xs its.toList

def LsF (K : PySem.W.Frag) (H : Hp) (F : Fz) (a : Addr) (xs : List V) : Prop := (F a ∧ Rd H a (.lst xs)) ∨ KL K a xs
def TpF (K : PySem.W.Frag) (H : Hp) (F : Fz) (a : Addr) (xs : List V) : Prop := (F a ∧ Rd H a (.tup xs)) ∨ KT K a xs
theorem LsF.sq {K H F a xs} (h : LsF K H F a xs) : SqL K H a xs := h.elim (fun x => .inl x.2) .inr
theorem TpF.sq {K H F a xs} (h : TpF K H F a xs) : SqT K H a xs := h.elim (fun x => .inl x.2) .inr

def kD : Key → D
  | .inl i => .int i
  | .inr x => .str x

mutual
/-- v holds the data in H; all that it hangs on is among F -/
def Rep (K : PySem.W.Frag) (H : Hp) (F : Fz) : D → V → Prop
  | .none, v => v = .non
  | .bool b, v => v = .bl b
  | .int i, v => v = .int i
  | .str x, v => v = .str x
  | .list ts, v => ∃ a xs, v = .ref a ∧ LsF K H F a xs ∧ RepL K H F ts xs
  | .tuple ts, v => ∃ a xs, v = .ref a ∧ TpF K H F a xs ∧ RepL K H F ts xs
  | .dict kvs, v => ∃ a ys, v = .ref a ∧ F a ∧ H a = some (.dK ys) ∧ RepD K H F kvs ys
def RepL (K : PySem.W.Frag) (H : Hp) (F : Fz) : List D → List V → Prop
  | [], ys => ys = []
  | t :: ts, ys => ∃ x xs, ys = x :: xs ∧ Rep K H F t x ∧ RepL K H F ts xs
def RepD (K : PySem.W.Frag) (H : Hp) (F : Fz) : List (D × D) → List (Key × V) → Prop
  | [], ys => ys = []
  | (k, t) :: ts, ys => ∃ y x xs, ys = (y, x) :: xs ∧ k = kD y ∧ Rep K H F t x ∧ RepD K H F ts xs
end

/-- H' has all of H at F -/
def Keeps (F : Fz) (H H' : Hp) : Prop := ∀ a o, F a → H a = some o → H' a = some o

theorem Rd.keep {F : Fz} {H H' : Hp} {a : Addr} {u : HO} (k : Keeps F H H') (f : F a) (h : Rd H a u) : Rd H' a u :=
  h.elim (fun e => .inl (k a _ f e)) fun ⟨o, e⟩ => .inr ⟨o, k a _ f e⟩
theorem LsF.keep {K} {H H' : Hp} {F F' : Fz} {a xs} (k : Keeps F H H') (g : ∀ a, F a → F' a) (h : LsF K H F a xs) : LsF K H' F' a xs :=
  h.elim (fun x => .inl ⟨g a x.1, Rd.keep k x.1 x.2⟩) .inr
theorem TpF.keep {K} {H H' : Hp} {F F' : Fz} {a xs} (k : Keeps F H H') (g : ∀ a, F a → F' a) (h : TpF K H F a xs) : TpF K H' F' a xs :=
  h.elim (fun x => .inl ⟨g a x.1, Rd.keep k x.1 x.2⟩) .inr

mutual
theorem Rep.keep {K} {H H' : Hp} {F F' : Fz} (k : Keeps F H H') (g : ∀ a, F a → F' a) : ∀ (t : D) {v : V}, Rep K H F t v → Rep K H' F' t v
  | .none, _, h => h
  | .bool _, _, h => h
  | .int _, _, h => h
  | .str _, _, h => h
  | .list ts, v, h => by
    unfold Rep at h ⊢
    obtain ⟨a, xs, e, h1, h2⟩ := h
    exact ⟨a, xs, e, h1.keep k g, RepL.keep k g ts h2⟩
  | .tuple ts, v, h => by
    unfold Rep at h ⊢
    obtain ⟨a, xs, e, h1, h2⟩ := h
    exact ⟨a, xs, e, h1.keep k g, RepL.keep k g ts h2⟩
  | .dict kvs, v, h => by
    unfold Rep at h ⊢
    obtain ⟨a, ys, e, h0, h1, h2⟩ := h
    exact ⟨a, ys, e, g a h0, k a _ h0 h1, RepD.keep k g kvs h2⟩
theorem RepL.keep {K} {H H' : Hp} {F F' : Fz} (k : Keeps F H H') (g : ∀ a, F a → F' a) : ∀ (ts : List D) {ys : List V}, RepL K H F ts ys → RepL K H' F' ts ys
  | [], _, h => h
  | t :: ts, ys, h => by
    unfold RepL at h ⊢
    obtain ⟨x, xs, e, h1, h2⟩ := h
    exact ⟨x, xs, e, Rep.keep k g t h1, RepL.keep k g ts h2⟩
theorem RepD.keep {K} {H H' : Hp} {F F' : Fz} (k : Keeps F H H') (g : ∀ a, F a → F' a) : ∀ (ts : List (D × D)) {ys : List (Key × V)}, RepD K H F ts ys → RepD K H' F' ts ys
  | [], _, h => h
  | (d, t) :: ts, ys, h => by
    unfold RepD at h ⊢
    obtain ⟨y, x, xs, e, e2, h1, h2⟩ := h
    exact ⟨y, x, xs, e, e2, Rep.keep k g t h1, RepD.keep k g ts h2⟩
end

theorem RepL.nil {K H F} : RepL K H F [] [] := by unfold RepL; rfl
theorem RepL.cons {K H F t x ts xs} (h : Rep K H F t x) (r : RepL K H F ts xs) : RepL K H F (t :: ts) (x :: xs) := by
  unfold RepL; exact ⟨x, xs, rfl, h, r⟩
theorem RepL.length {K H F} : ∀ {ts : List D} {xs : List V}, RepL K H F ts xs → xs.length = ts.length
  | [], xs, h => by unfold RepL at h; subst h; rfl
  | t :: ts, xs, h => by
    unfold RepL at h
    obtain ⟨x, ys, e, _, h2⟩ := h
    subst e
    rw [List.length_cons, List.length_cons, RepL.length h2]
theorem RepL.get {K H F} : ∀ {ts : List D} {xs : List V} {i : Nat} {t : D}, RepL K H F ts xs → ts[i]? = some t → ∃ x, xs[i]? = some x ∧ Rep K H F t x
  | [], _, _, _, _, e => by simp at e
  | t :: ts, xs, i, u, h, e => by
    unfold RepL at h
    obtain ⟨x, ys, e', h1, h2⟩ := h
    subst e'
    cases i with
    | zero => simp at e; subst e; exact ⟨x, rfl, h1⟩
    | succ i =>
      have e2 : ts[i]? = some u := by simpa using e
      obtain ⟨z, e3, r⟩ := RepL.get (i := i) h2 e2
      exact ⟨z, by simpa using e3, r⟩
theorem RepL.append {K H F} : ∀ {ts us : List D} {xs ys : List V}, RepL K H F ts xs → RepL K H F us ys → RepL K H F (ts ++ us) (xs ++ ys)
  | [], us, xs, ys, h, h' => by unfold RepL at h; subst h; exact h'
  | t :: ts, us, xs, ys, h, h' => by
    unfold RepL at h
    obtain ⟨x, zs, e, h1, h2⟩ := h
    subst e
    exact RepL.cons h1 (RepL.append h2 h')
theorem RepL.take {K H F} : ∀ {ts : List D} {xs : List V} (n : Nat), RepL K H F ts xs → RepL K H F (ts.take n) (xs.take n)
  | _, _, 0, _ => by simp [RepL.nil]
  | [], xs, n + 1, h => by unfold RepL at h; subst h; simp [RepL.nil]
  | t :: ts, xs, n + 1, h => by
    unfold RepL at h
    obtain ⟨x, zs, e, h1, h2⟩ := h
    subst e
    simpa using RepL.cons h1 (RepL.take n h2)
theorem RepL.drop {K H F} : ∀ {ts : List D} {xs : List V} (n : Nat), RepL K H F ts xs → RepL K H F (ts.drop n) (xs.drop n)
  | _, _, 0, h => by simpa using h
  | [], xs, n + 1, h => by unfold RepL at h; subst h; simp [RepL.nil]
  | t :: ts, xs, n + 1, h => by
    unfold RepL at h
    obtain ⟨x, zs, e, h1, h2⟩ := h
    subst e
    simpa using RepL.drop n h2
theorem RepL.set {K H F t x} (r : Rep K H F t x) : ∀ {ts : List D} {xs : List V} (i : Nat), RepL K H F ts xs → RepL K H F (ts.set i t) (xs.set i x)
  | [], xs, i, h => by unfold RepL at h; subst h; simp [RepL.nil]
  | u :: ts, xs, i, h => by
    unfold RepL at h
    obtain ⟨y, zs, e, h1, h2⟩ := h
    subst e
    cases i with
    | zero => simpa using RepL.cons r h2
    | succ i => simpa using RepL.cons h1 (RepL.set r i h2)
theorem RepL.reverse {K H F} : ∀ {ts : List D} {xs : List V}, RepL K H F ts xs → RepL K H F ts.reverse xs.reverse
  | [], xs, h => by unfold RepL at h; subst h; simp [RepL.nil]
  | t :: ts, xs, h => by
    unfold RepL at h
    obtain ⟨x, zs, e, h1, h2⟩ := h
    subst e
    simpa using (RepL.reverse h2).append (RepL.cons h1 RepL.nil)
theorem RepL.ints {K H F} : ∀ {ns : List Int} {xs : List V}, RepL K H F (ns.map PyData.int) xs → xs = ns.map V.int
  | [], xs, h => by simpa [RepL] using h
  | n :: ns, xs, h => by
    rw [List.map_cons] at h
    unfold RepL at h
    obtain ⟨x, zs, e, h1, h2⟩ := h
    subst e
    unfold Rep at h1
    rw [h1, RepL.ints h2, List.map_cons]
theorem RepL.of_ints {K H F} : ∀ (ns : List Int), RepL K H F (ns.map PyData.int) (ns.map V.int)
  | [] => RepL.nil
  | n :: ns => RepL.cons (by unfold Rep; rfl) (RepL.of_ints ns)

/-- read where it stands: a list or dict at any place that expressions leave -/
def RRep (K : PySem.W.Frag) (ft : List Addr) (H : Hp) (F : Fz) : D → V → Prop
  | .list ts, v => ∃ a xs, v = .ref a ∧ LsF K H (fun b => b ∉ ft) a xs ∧ RepL K H F ts xs
  | .dict kvs, v => ∃ a ys, v = .ref a ∧ a ∉ ft ∧ H a = some (.dK ys) ∧ RepD K H F kvs ys
  | t, v => Rep K H F t v

/-- an owned root -/
def OwnAt (K : PySem.W.Frag) (H : Hp) (F : Fz) : D → Addr → Prop
  | .list ts, p => ∃ xs, H p = some (.lst xs) ∧ RepL K H F ts xs
  | .dict kvs, p => ∃ ys, H p = some (.dK ys) ∧ RepD K H F kvs ys
  | _, _ => False
end Z
namespace Z
open PySem PySem.Spec PyProof.Rows L2

/-- what a def is entered with: the heap, what may be shared, the place of the state that it was handed -/
structure Act where
  H0 : Hp
  F0 : Fz
  ft0 : List Addr

/-- the law's state: [[cells], seed], or [k, cell] -/
inductive StRep (H : Hp) : D → V → List Addr → Prop
  | two {p b : Addr} (ns : List Int) (s : Int) (h1 : H p = some (.lst [.ref b, .int s])) (h2 : H b = some (.lst (ns.map V.int))) (hne : p ≠ b) : StRep H (.list [.list (ns.map PyData.int), .int s]) (.ref p) [p, b]
  | one {p : Addr} (i j : Int) (h1 : H p = some (.lst [.int i, .int j])) : StRep H (.list [.int i, .int j]) (.ref p) [p]
theorem StRep.ne {H t v ft} (h : StRep H t v ft) : ft ≠ [] := by cases h <;> simp
theorem StRep.fun {H H' t t' v v' ft} (h : StRep H t v ft) (h' : StRep H' t' v' ft) : v = v' := by
  cases h <;> cases h' <;> rfl
theorem StRep.trk {H t v ft} (h : StRep H t v ft) : ∀ a ∈ ft, H a ≠ none := by
  cases h with
  | two ns s h1 h2 hne => intro a ha; simp at ha; rcases ha with rfl | rfl <;> simp_all
  | one i j h1 => intro a ha; simp at ha; subst ha; simp_all
theorem StRep.keep {H H' t v ft} (h : StRep H t v ft) (k : ∀ a o, a ∈ ft → H a = some o → H' a = some o) : StRep H' t v ft := by
  cases h with
  | two ns s h1 h2 hne => exact .two ns s (k _ _ (by simp) h1) (k _ _ (by simp) h2) hne
  | one i j h1 => exact .one i j (k _ _ (by simp) h1)

def StOk (H : Hp) (ft : List Addr) : Option D → Prop
  | none => ft = []
  | some t => ∃ v, StRep H t v ft

structure HI (G : Act) (ft : List Addr) (H : Hp) (F : Fz) : Prop where
  trk : ∀ a, F a → H a ≠ none
  nft : ∀ a, F a → a ∉ ft
  keep : ∀ a o, G.H0 a = some o → a ∉ ft → H a = some o
  there : ∀ a, G.H0 a ≠ none → H a ≠ none
  old : ∀ a, G.F0 a → F a
  new : ∀ a, F a → G.F0 a ∨ G.H0 a = none
  ftk : ∀ a ∈ ft, H a ≠ none
  pf : G.ft0 ≠ [] → ft = G.ft0
  fn : G.ft0 = [] → ∀ a ∈ ft, G.H0 a = none

/-- what an expression does to the heap -/
structure Step (ft : List Addr) (H : Hp) (F : Fz) (H' : Hp) (F' : Fz) : Prop where
  keep : ∀ a o, H a = some o → a ∉ ft → H' a = some o
  there : ∀ a, H a ≠ none → H' a ≠ none
  old : ∀ a, F a → F' a
  new : ∀ a, F' a → F a ∨ H a = none
theorem Step.refl {ft H F} : Step ft H F H F := ⟨fun _ _ h _ => h, fun _ h => h, fun _ h => h, fun _ h => .inl h⟩
theorem Step.trans {ft H F H1 F1 H2 F2} (a : Step ft H F H1 F1) (b : Step ft H1 F1 H2 F2) : Step ft H F H2 F2 where
  keep := fun c o h n => b.keep c o (a.keep c o h n) n
  there := fun c h => b.there c (a.there c h)
  old := fun c h => b.old c (a.old c h)
  new := fun c h => by
    rcases b.new c h with h | h
    · exact a.new c h
    · refine .inr ?_
      cases e : H c with
      | none => rfl
      | some o => exact absurd h (a.there c (by simp [e]))
theorem Step.bk0 {ft H F H' F'} (s : Step ft H F H' F') {a : Addr} (h : H' a = none) : H a = none := by
  cases e : H a with
  | none => rfl
  | some o => exact absurd h (s.there a (by simp [e]))

inductive Sl where
  | no
  | sh (t : D)
  | br (t : D)
  | ow (t : D)
  | st
abbrev Env := List Sl

def RRepP (K : PySem.W.Frag) (φ : Fz) (H : Hp) (F : Fz) : D → V → Prop
  | .list ts, v => ∃ a xs, v = .ref a ∧ LsF K H φ a xs ∧ RepL K H F ts xs
  | .dict kvs, v => ∃ a ys, v = .ref a ∧ φ a ∧ H a = some (.dK ys) ∧ RepD K H F kvs ys
  | t, v => Rep K H F t v
theorem RRepP.keep {K} {φ φ' : Fz} {H H' : Hp} {F F' : Fz} (kφ : Keeps φ H H') (gφ : ∀ a, φ a → φ' a) (k : Keeps F H H') (g : ∀ a, F a → F' a) : ∀ {t : D} {v : V}, RRepP K φ H F t v → RRepP K φ' H' F' t v
  | .list ts, v, ⟨a, xs, e, h1, h2⟩ => ⟨a, xs, e, h1.keep kφ gφ, RepL.keep k g ts h2⟩
  | .dict kvs, v, ⟨a, ys, e, h0, h1, h2⟩ => ⟨a, ys, e, gφ a h0, kφ a _ h0 h1, RepD.keep k g kvs h2⟩
  | .none, _, h => h
  | .bool _, _, h => h
  | .int _, _, h => h
  | .str _, _, h => h
  | .tuple ts, v, h => Rep.keep k g (.tuple ts) h
theorem RRepP.of {K} {φ : Fz} {H : Hp} {F : Fz} (g : ∀ a, F a → φ a) : ∀ {t : D} {v : V}, Rep K H F t v → RRepP K φ H F t v
  | .list ts, v, h => by
    unfold Rep at h
    obtain ⟨a, xs, e, h1, h2⟩ := h
    exact ⟨a, xs, e, h1.keep (fun _ _ _ e => e) g, h2⟩
  | .dict kvs, v, h => by
    unfold Rep at h
    obtain ⟨a, ys, e, h0, h1, h2⟩ := h
    exact ⟨a, ys, e, g a h0, h1, h2⟩
  | .none, _, h => h
  | .bool _, _, h => h
  | .int _, _, h => h
  | .str _, _, h => h
  | .tuple ts, v, h => h
theorem RRepP.mono {K} {φ φ' : Fz} {H : Hp} {F : Fz} (g : ∀ a, φ a → φ' a) {t : D} {v : V} (h : RRepP K φ H F t v) : RRepP K φ' H F t v :=
  h.keep (fun _ _ _ e => e) g (fun _ _ _ e => e) (fun _ h => h)

/-- what may be read by expressions -/
abbrev RR (K : PySem.W.Frag) (ft : List Addr) (H : Hp) (F : Fz) : D → V → Prop := RRepP K (fun b => b ∉ ft) H F

def SlotOk (K : PySem.W.Frag) (G : Act) (ft : List Addr) (H : Hp) (F : Fz) (st : Option D) : Sl → Option (Option V) → Prop
  | .no, _ => True
  | .sh t, o => ∃ v, o = some (some v) ∧ Rep K H F t v
  | .br t, o => ∃ v, o = some (some v) ∧ RRepP K (fun b => G.H0 b ≠ none ∧ b ∉ ft) H F t v
  | .ow t, o => ∃ p, o = some (some (.ref p)) ∧ ¬ F p ∧ p ∉ ft ∧ G.H0 p = none ∧ OwnAt K H F t p
  | .st, o => ∃ v t, o = some (some v) ∧ st = some t ∧ StRep H t v ft

def OwAt (env : Env) (σ : L2.St) (i : Nat) (p : Addr) : Prop := (∃ t, env[i]? = some (.ow t)) ∧ σ[i]? = some (some (.ref p))

structure ZI (K : PySem.W.Frag) (G : Act) (ft : List Addr) (σ : L2.St) (H : Hp) (F : Fz) (env : Env) (st : Option D) : Prop where
  hi : HI G ft H F
  len : σ.length = env.length
  slot : ∀ (i : Nat) (s : Sl), env[i]? = some s → SlotOk K G ft H F st s σ[i]?
  dis : ∀ (i j : Nat) (p : Addr), OwAt env σ i p → OwAt env σ j p → i = j
  sto : StOk H ft st

section
variable {K : PySem.W.Frag} {G : Act} {ft : List Addr} {σ : L2.St} {H H' : Hp} {F F' : Fz} {env : Env} {st st' : Option D}

theorem HI.rr (h : HI G ft H F) {t : D} {v : V} (r : Rep K H F t v) : RR K ft H F t v := RRepP.of h.nft r
theorem Step.rep (h : HI G ft H F) (s : Step ft H F H' F') {t : D} {v : V} (r : Rep K H F t v) : Rep K H' F' t v :=
  Rep.keep (fun a o f e => s.keep a o e (h.nft a f)) s.old t r
theorem Step.rr (h : HI G ft H F) (s : Step ft H F H' F') {t : D} {v : V} (r : RR K ft H F t v) : RR K ft H' F' t v :=
  RRepP.keep (fun a o f e => s.keep a o e f) (fun _ h => h) (fun a o f e => s.keep a o e (h.nft a f)) s.old r
theorem Step.repL (h : HI G ft H F) (s : Step ft H F H' F') {ts : List D} {vs : List V} (r : RepL K H F ts vs) : RepL K H' F' ts vs :=
  RepL.keep (fun a o f e => s.keep a o e (h.nft a f)) s.old ts r
theorem Step.own (h : HI G ft H F) (s : Step ft H F H' F') {t : D} {p : Addr} (n : p ∉ ft) (r : OwnAt K H F t p) : OwnAt K H' F' t p := by
  cases t with
  | list ts =>
    obtain ⟨xs, e, q⟩ := r
    exact ⟨xs, s.keep p _ e n, s.repL h q⟩
  | dict kvs =>
    obtain ⟨ys, e, q⟩ := r
    exact ⟨ys, s.keep p _ e n, RepD.keep (fun a o f e => s.keep a o e (h.nft a f)) s.old kvs q⟩
  | _ => exact r.elim
theorem OwnAt.trk {t : D} {p : Addr} (r : OwnAt K H F t p) : H p ≠ none := by
  cases t with
  | list ts => obtain ⟨xs, e, _⟩ := r; simp [e]
  | dict ts => obtain ⟨xs, e, _⟩ := r; simp [e]
  | _ => exact r.elim

/-- the invariant over a step of an expression -/
theorem StOk.iff (h : StOk H ft st) : st = none ↔ ft = [] := by
  cases st with
  | none => exact ⟨fun _ => h, fun _ => rfl⟩
  | some t =>
    obtain ⟨v, r⟩ := h
    exact ⟨(fun e => by cases e), fun e => absurd e r.ne⟩
theorem ZI.step (I : ZI K G ft σ H F env st) (s : Step ft H F H' F') (hi : HI G ft H' F') (sto : StOk H' ft st') : ZI K G ft σ H' F' env st' where
  hi := hi
  len := I.len
  slot := fun i u e => by
    have q := I.slot i u e
    cases u with
    | no => trivial
    | sh t => obtain ⟨v, e1, r⟩ := q; exact ⟨v, e1, s.rep I.hi r⟩
    | br t =>
      obtain ⟨v, e1, r⟩ := q
      exact ⟨v, e1, r.keep (fun a o f e => s.keep a o e f.2) (fun _ h => h) (fun a o f e => s.keep a o e (I.hi.nft a f)) s.old⟩
    | ow t =>
      obtain ⟨p, e1, n1, n2, n3, r⟩ := q
      refine ⟨p, e1, fun f => ?_, n2, n3, s.own I.hi n2 r⟩
      rcases s.new p f with f | f
      · exact n1 f
      · exact r.trk f
    | st =>
      obtain ⟨v, t, e1, e2, r⟩ := q
      cases hs : st' with
      | none => rw [I.sto.iff.mpr (by rw [hs] at sto; exact sto)] at e2; cases e2
      | some t' =>
        rw [hs] at sto
        obtain ⟨v', r'⟩ := sto
        obtain rfl := r.fun r'
        exact ⟨v, t', e1, rfl, r'⟩
  dis := I.dis
  sto := sto

/-- all that was tracked is kept, the new ones may be shared -/
structure Grow (H : Hp) (F : Fz) (H' : Hp) (F' : Fz) : Prop where
  same : Same H H'
  old : ∀ a, F a → F' a
  new : ∀ a, F' a → F a ∨ H a = none
  trk : ∀ a, F' a → H' a ≠ none
theorem Grow.refl (hi : HI G ft H F) : Grow H F H F := ⟨Same.refl H, fun _ h => h, fun _ h => .inl h, hi.trk⟩
theorem Grow.step {ft} (g : Grow H F H' F') : Step ft H F H' F' where
  keep := fun a o e _ => g.same a o e
  there := fun a n e => by
    cases q : H a with
    | none => exact n q
    | some o => rw [g.same a o q] at e; cases e
  old := g.old
  new := g.new
theorem Grow.hi (I : HI G ft H F) (g : Grow H F H' F') : HI G ft H' F' where
  trk := g.trk
  nft := fun a f => by
    rcases g.new a f with f | f
    · exact I.nft a f
    · intro z; exact I.ftk a z f
  keep := fun a o e n => g.same a o (I.keep a o e n)
  there := fun a n => g.step (ft := []) |>.there a (I.there a n)
  old := fun a f => g.old a (I.old a f)
  new := fun a f => by
    rcases g.new a f with f | f
    · exact I.new a f
    · refine .inr ?_
      cases e : G.H0 a with
      | none => rfl
      | some o => exact absurd f (I.there a (by simp [e]))
  ftk := fun a h => g.step (ft := []) |>.there a (I.ftk a h)
  pf := I.pf
  fn := I.fn
theorem StOk.same (g : Same H H') (h : StOk H ft st) : StOk H' ft st := by
  cases st with
  | none => exact h
  | some t => obtain ⟨v, r⟩ := h; exact ⟨v, r.keep fun a o _ e => g a o e⟩
theorem ZI.grow (I : ZI K G ft σ H F env st) (g : Grow H F H' F') : ZI K G ft σ H' F' env st :=
  I.step g.step (g.hi I.hi) (I.sto.same g.same)
theorem Grow.trans {H1 H2 : Hp} {F1 F2 : Fz} (a : Grow H F H1 F1) (b : Grow H1 F1 H2 F2) : Grow H F H2 F2 where
  same := a.same.trans b.same
  old := fun c h => b.old c (a.old c h)
  new := (a.step (ft := []).trans b.step).new
  trk := b.trk
/-- a new object, not shared -/
theorem Grow.own (hi : HI G ft H F) {p : Addr} {o : HO} (hp : H p = none) : Grow H F (upd H p o) F where
  same := fun b x e => by rw [upd_ne (ne_of_none e hp)]; exact e
  old := fun _ h => h
  new := fun _ h => .inl h
  trk := fun a f => by
    unfold upd
    split
    · simp
    · exact hi.trk a f
/-- .. shared -/
theorem Grow.sh (hi : HI G ft H F) {p : Addr} {o : HO} (hp : H p = none) : Grow H F (upd H p o) (fun a => F a ∨ a = p) where
  same := fun b x e => by rw [upd_ne (ne_of_none e hp)]; exact e
  old := fun _ h => .inl h
  new := fun a h => h.elim .inl fun e => .inr (by rw [e]; exact hp)
  trk := fun a f => by
    unfold upd
    split
    · simp
    · rename_i n
      exact hi.trk a (f.resolve_right n)
/-- an owned object becomes a shared one -/
theorem Grow.share {p : Addr} {H0 : Hp} {F0 : Fz} (g : Grow H0 F0 H F) (hp : H p ≠ none) (h0 : H0 p = none) : Grow H0 F0 H (fun a => F a ∨ a = p) where
  same := g.same
  old := fun a h => .inl (g.old a h)
  new := fun a h => h.elim (g.new a) fun e => .inr (by rw [e]; exact h0)
  trk := fun a h => h.elim (g.trk a) fun e => by rw [e]; exact hp

theorem HI.share (h : HI G ft H F) {p : Addr} (hp : H p ≠ none) (hn : p ∉ ft) (h0 : G.H0 p = none) : HI G ft H (fun a => F a ∨ a = p) where
  trk := fun a f => f.elim (h.trk a) fun e => by rw [e]; exact hp
  nft := fun a f => f.elim (h.nft a) fun e => by rw [e]; exact hn
  keep := h.keep
  there := h.there
  old := fun a f => .inl (h.old a f)
  new := fun a f => f.elim (h.new a) fun e => .inr (by rw [e]; exact h0)
  ftk := h.ftk
  pf := h.pf
  fn := h.fn
theorem HI.fresh (h : HI G ft H F) {p : Addr} (hp : H p = none) : p ∉ ft ∧ G.H0 p = none ∧ ¬ F p :=
  ⟨fun z => h.ftk p z hp, by
    cases e : G.H0 p with
    | none => rfl
    | some o => exact absurd hp (h.there p (by simp [e])), fun f => h.trk p f hp⟩
/-- what came new may be shared -/
theorem ZI.shared (I : ZI K G ft σ H F env st) (s : Step ft H F H' F') (I' : ZI K G ft σ H' F' env st') {p : Addr} (hp : H p = none) (hp' : H' p ≠ none) :
    Step ft H F H' (fun a => F' a ∨ a = p) ∧ ZI K G ft σ H' (fun a => F' a ∨ a = p) env st' := by
  obtain ⟨n1, n2, n3⟩ := I.hi.fresh hp
  have s' : Step ft H F H' (fun a => F' a ∨ a = p) := ⟨s.keep, s.there, fun a h => .inl (s.old a h), fun a h => h.elim (s.new a) fun e => .inr (by rw [e]; exact hp)⟩
  exact ⟨s', I.step s' (I'.hi.share hp' n1 n2) I'.sto⟩
theorem OwnAt.rep {t : D} {p : Addr} (r : OwnAt K H F t p) : Rep K H (fun a => F a ∨ a = p) t (.ref p) := by
  cases t with
  | list ts =>
    obtain ⟨xs, e, q⟩ := r
    unfold Rep
    exact ⟨p, xs, rfl, .inl ⟨.inr rfl, .inl e⟩, RepL.keep (fun _ _ _ e => e) (fun _ h => .inl h) ts q⟩
  | dict kvs =>
    obtain ⟨ys, e, q⟩ := r
    unfold Rep
    exact ⟨p, ys, rfl, .inr rfl, e, RepD.keep (fun _ _ _ e => e) (fun _ h => .inl h) kvs q⟩
  | _ => exact r.elim
theorem OwnAt.rr {t : D} {p : Addr} (n : p ∉ ft) (r : OwnAt K H F t p) : RR K ft H F t (.ref p) := by
  cases t with
  | list ts =>
    obtain ⟨xs, e, q⟩ := r
    exact ⟨p, xs, rfl, .inl ⟨n, .inl e⟩, q⟩
  | dict kvs =>
    obtain ⟨ys, e, q⟩ := r
    exact ⟨p, ys, rfl, n, e, q⟩
  | _ => exact r.elim
end
end Z
namespace Z
open PySem PySem.Spec PyProof.Rows L2

/-- a target: a name, or a tuple of targets -/
inductive Tg where
  | one (i : Nat)
  | nil
  | cons (a r : Tg)
def setT : Tg → D → Env → Option Env
  | .one i, d, env => some (env.set i (.sh d))
  | .nil, .tuple [], env => some env
  | .cons a r, .tuple (d :: ds), env => (setT a d env).bind (setT r (.tuple ds))
  | _, _, _ => none

def wipeE (env : Env) : List Nat → Env
  | [] => env
  | v :: vs => (wipeE env vs).set v .no

inductive ZE where
  | var (i : Nat)
  | rd (i : Nat)
  | sr (i : Nat)
  | cst (d : D)
  | op1 (f : D → Option D) (a : ZE)
  | op2 (f : D → D → Option D) (a b : ZE)
  | op3 (f : D → D → D → Option D) (a b c : ZE)
  | chain (f g : D → D → Option D) (a b c : ZE)
  | band (a b : ZE)
  | bor (a b : ZE)
  | ife (c a b : ZE)
  | lst (a : ZE)
  | tup (a : ZE)
  | bi (f : List D → Option D) (a : ZE)
  | call (f : List D → Option D) (a : ZE)
  | calls (i : Nat) (f : D → List D → Option (D × D)) (a : ZE)
  | comp (own : List Nat) (tg : Tg) (it c e : ZE)
  | comp2 (own own1 : List Nat) (tg : Tg) (it c : ZE) (tg1 : Tg) (it1 c1 e : ZE)
  | dcomp (own : List Nat) (tg : Tg) (it c k e : ZE)
  | sget (i : Nat) (j : Nat)
  | anil
  | acons (a r : ZE)

abbrev SD := Option D
abbrev Ev := Env → SD → Option (D × SD)

def ev1 (f : D → Option D) (x : D × SD) : Option (D × SD) := (f x.1).map fun r => (r, x.2)
def evList (x : D × SD) : Option (List D × SD) := match x.1 with | .list ts => some (ts, x.2) | _ => none
def evBool (x : D × SD) : Option (Bool × SD) := match x.1 with | .bool b => some (b, x.2) | _ => none

/-- a comprehension's turns -/
def evC (env : Env) (tg : Tg) (c e : Ev) : List D → SD → Option (List D × SD)
  | [], st => some ([], st)
  | t :: ts, st => (setT tg t env).bind fun env' => (c env' st).bind fun b => (evBool b).bind fun b =>
      if b.1 then (e env' b.2).bind fun y => (evC env tg c e ts y.2).map fun r => (y.1 :: r.1, r.2) else evC env tg c e ts b.2
/-- .. of two clauses -/
def evC2 (env : Env) (tg : Tg) (c : Ev) (inner : Env → SD → Option (List D × SD)) : List D → SD → Option (List D × SD)
  | [], st => some ([], st)
  | t :: ts, st => (setT tg t env).bind fun env' => (c env' st).bind fun b => (evBool b).bind fun b =>
      if b.1 then (inner env' b.2).bind fun y => (evC2 env tg c inner ts y.2).map fun r => (y.1 ++ r.1, r.2) else evC2 env tg c inner ts b.2
/-- what a dict's pairs are behind a store -/
def dPut (kvs : List (D × D)) (k v : D) : List (D × D) :=
  if (kvs.any fun p => PyData.eqv p.1 k) = true then kvs.map (fun p => if PyData.eqv p.1 k = true then (p.1, v) else p) else kvs ++ [(k, v)]
def dLook (kvs : List (D × D)) (k : D) : Option D := (kvs.find? fun p => PyData.eqv p.1 k).map (·.2)
def evDC (env : Env) (tg : Tg) (c k e : Ev) : List D → List (D × D) → SD → Option (List (D × D) × SD)
  | [], acc, st => some (acc, st)
  | t :: ts, acc, st => (setT tg t env).bind fun env' => (c env' st).bind fun b => (evBool b).bind fun b =>
      if b.1 then (k env' b.2).bind fun x => (e env' x.2).bind fun y => evDC env tg c k e ts (dPut acc x.1 y.1) y.2 else evDC env tg c k e ts acc b.2

/-- an int that stands in the state at a place -/
def dItem : D → Nat → Option D
  | .list [.int a, .int b], 0 => some (.int a)
  | .list [.int a, .int b], 1 => some (.int b)
  | _, _ => none
def dItemSet : D → Nat → D → Option D
  | .list [.int a, .int b], 0, .int c => some (.list [.int c, .int b])
  | .list [.int a, .int b], 1, .int c => some (.list [.int a, .int c])
  | _, _, _ => none
def evE : ZE → Env → SD → Option (D × SD)
  | .var i, env, st => match env[i]? with | some (.sh t) => some (t, st) | _ => none
  | .rd i, env, st => match env[i]? with | some (.sh t) => some (t, st) | some (.br t) => some (t, st) | some (.ow t) => some (t, st) | _ => none
  | .sr i, env, st => match env[i]? with | some (.sh t) => some (t, st) | some (.br t) => some (t, st) | _ => none
  | .cst d, _, st => some (d, st)
  | .op1 f a, env, st => (evE a env st).bind fun x => (f x.1).map fun r => (r, x.2)
  | .op2 f a b, env, st => (evE a env st).bind fun x => (evE b env x.2).bind fun y => (f x.1 y.1).map fun r => (r, y.2)
  | .op3 f a b c, env, st => (evE a env st).bind fun x => (evE b env x.2).bind fun y => (evE c env y.2).bind fun z => (f x.1 y.1 z.1).map fun r => (r, z.2)
  | .chain f g a b c, env, st => (evE a env st).bind fun x => (evE b env x.2).bind fun y => (f x.1 y.1).bind fun r => match r with
      | .bool true => (evE c env y.2).bind fun z => (g y.1 z.1).map fun r => (r, z.2)
      | .bool false => some (.bool false, y.2)
      | _ => none
  | .band a b, env, st => (evE a env st).bind fun x => (evBool x).bind fun c => if c.1 then evE b env c.2 else some (.bool false, c.2)
  | .bor a b, env, st => (evE a env st).bind fun x => (evBool x).bind fun c => if c.1 then some (.bool true, c.2) else evE b env c.2
  | .ife c a b, env, st => (evE c env st).bind fun x => (evBool x).bind fun c => if c.1 then evE a env c.2 else evE b env c.2
  | .lst a, env, st => (evE a env st).bind fun x => (evList x).bind fun l => if l.1.length ≤ 16777216 then some (.list l.1, l.2) else none
  | .tup a, env, st => (evE a env st).bind fun x => (evList x).bind fun l => if l.1.length ≤ 16777216 then some (.tuple l.1, l.2) else none
  | .bi f a, env, st => (evE a env st).bind fun x => (evList x).bind fun l => (f l.1).map fun r => (r, l.2)
  | .call f a, env, st => (evE a env st).bind fun x => (evList x).bind fun l => (f l.1).map fun r => (r, l.2)
  | .calls i f a, env, st => match env[i]? with
    | some .st => (evE a env st).bind fun x => (evList x).bind fun l => l.2.bind fun t => (f t l.1).map fun r => (r.1, some r.2)
    | _ => none
  | .comp own tg it c e, env, st => (evE it env st).bind fun x => (evList x).bind fun l => (evC (wipeE env own) tg (evE c) (evE e) l.1 l.2).bind fun r => if r.1.length ≤ 16777216 then some (.list r.1, r.2) else none
  | .comp2 own own1 tg it c tg1 it1 c1 e, env, st => (evE it env st).bind fun x => (evList x).bind fun l =>
      (evC2 (wipeE env own) tg (evE c) (fun env' st' => (evE it1 env' st').bind fun x => (evList x).bind fun l => evC (wipeE env' own1) tg1 (evE c1) (evE e) l.1 l.2) l.1 l.2).bind fun r =>
        if r.1.length ≤ 16777216 then some (.list r.1, r.2) else none
  | .dcomp own tg it c k e, env, st => (evE it env st).bind fun x => (evList x).bind fun l => (evDC (wipeE env own) tg (evE c) (evE k) (evE e) l.1 [] l.2).bind fun r => if r.1.length ≤ 16777216 then some (.dict r.1, r.2) else none
  | .sget i j, env, st => match env[i]? with | some .st => (st.bind fun t => dItem t j).map fun r => (r, st) | _ => none
  | .anil, _, st => some (.list [], st)
  | .acons a r, env, st => (evE a env st).bind fun x => (evE r env x.2).bind fun y => (evList y).map fun l => (.list (x.1 :: l.1), l.2)

/-! ### what a def promises by its pure meaning -/
inductive Kd where
  | pl (f : List D → Option D)
  | sf (f : D → List D → Option (D × D))
  | mk (f : List D → Option D)
structure FE where
  name : Str
  kd : Kd

abbrev RRs (K : PySem.W.Frag) (ft : List Addr) (H : Hp) (F : Fz) : List D → List V → Prop := Paired (RR K ft H F)
abbrev Reps (K : PySem.W.Frag) (H : Hp) (F : Fz) : List D → List V → Prop := Paired (Rep K H F)

structure HL (ft : List Addr) (H : Hp) (F : Fz) : Prop where
  trk : ∀ a, F a → H a ≠ none
  nft : ∀ a, F a → a ∉ ft

def spOf (K : PySem.W.Frag) : Kd → Sp
  | .pl f => fun vs H Q _ => ∃ F args r, HL [] H F ∧ RRs K [] H F args vs ∧ f args = some r ∧ ∀ v H' F', Grow H F H' F' → Rep K H' F' r v → Q v H'
  | .sf f => fun vs H Q _ => ∃ ft v0 rest F args t r t', vs = v0 :: rest ∧ StRep H t v0 ft ∧ HL ft H F ∧ RRs K ft H F args rest ∧ f t args = some (r, t') ∧
      ∀ v H' F', Step ft H F H' F' → HL ft H' F' → StRep H' t' v0 ft → Rep K H' F' r v → Q v H'
  | .mk f => fun vs H Q _ => ∃ F args r, HL [] H F ∧ RRs K [] H F args vs ∧ f args = some r ∧ ∀ v H' ft, Same H H' → StRep H' r v ft → (∀ a ∈ ft, H a = none) → Q v H'

def CallOk (X : Cx) (e : FE) : Prop := ∃ (k : Nat) (f : Addr) (fd : FuncData) (ps : List Str), FnOk X.prog X.w X.K X.mg X.base CX0 k f fd ps (spOf X.K e.kd) ∧ Room k X.A ∧ X.mg e.name = some (.ref f) ∧
  PySem.W.keepIn X.K (.ref f) = true ∧ Binds X.K fd ps []

structure Ct where
  fes : List FE
  blts : List Str
  gcd : Bool

structure Good (C : Ct) (X : Cx) : Prop where
  calm : X.calm = true
  nd : X.N.Nodup
  xe : X.xe = fun _ _ => False
  room : Room 0 X.A
  tab : ∀ e ∈ C.fes, CallOk X e
  blt : ∀ n ∈ C.blts, X.mg n = none
  gcd : C.gcd = true → X.mg "gcd" = some (.builtin "math.gcd")

/-! ### readings -/
/-- which roots may be read: those that expressions leave; those that statements leave, too -/
abbrev Md := Act → List Addr → Fz → Fz
def Mr : Md := fun _ ft _ b => b ∉ ft
def Ms : Md := fun G ft F b => F b ∨ (G.H0 b ≠ none ∧ b ∉ ft)
structure MdOk (M : Md) : Prop where
  out : ∀ {G ft F b}, (∀ a, F a → a ∉ ft) → M G ft F b → b ∉ ft
  sh : ∀ {G ft F b}, (∀ a, F a → a ∉ ft) → F b → M G ft F b
  mono : ∀ {G ft F F' b}, (∀ a, F a → F' a) → M G ft F b → M G ft F' b
theorem mr_ok : MdOk Mr := ⟨fun _ h => h, fun h f => h _ f, fun _ h => h⟩
theorem ms_ok : MdOk Ms := ⟨fun h m => m.elim (h _) fun x => x.2, fun _ f => .inl f, fun g m => m.elim (fun f => .inl (g _ f)) .inr⟩
section
variable (K : PySem.W.Frag) (G : Act)
def rdE (z : ZE) : TE := fun σ H Q => ∃ ft F env st r st', ZI K G ft σ H F env st ∧ evE z env st = some (r, st') ∧ ∀ v H' F', Step ft H F H' F' → ZI K G ft σ H' F' env st' → Rep K H' F' r v → Q v H'
def rdR (z : ZE) : TE := fun σ H Q => ∃ ft F env st r st', ZI K G ft σ H F env st ∧ evE z env st = some (r, st') ∧ ∀ v H' F', Step ft H F H' F' → ZI K G ft σ H' F' env st' → RR K ft H' F' r v → Q v H'
def rdF (z : ZE) : TE := fun σ H Q => ∃ ft F env st r st', ZI K G ft σ H F env st ∧ evE z env st = some (r, st') ∧ ∀ p H' F', Step ft H F H' F' → ZI K G ft σ H' F' env st' → H p = none → ¬ F' p → OwnAt K H' F' r p → Q (.ref p) H'
def rdT (z : ZE) : TT := fun σ H Q => ∃ ft F env st b st', ZI K G ft σ H F env st ∧ evE z env st = some (.bool b, st') ∧ ∀ H' F', Step ft H F H' F' → ZI K G ft σ H' F' env st' → Q b H'
def rdP (M : Md) (z : ZE) : TE := fun σ H Q => ∃ ft F env st r st', ZI K G ft σ H F env st ∧ evE z env st = some (r, st') ∧ ∀ v H' F', Step ft H F H' F' → ZI K G ft σ H' F' env st' → RRepP K (M G ft F') H' F' r v → Q v H'
def rdA (M : Md) (z : ZE) : TA := fun σ H Q => ∃ ft F env st ts st', ZI K G ft σ H F env st ∧ evE z env st = some (.list ts, st') ∧ ∀ vs H' F', Step ft H F H' F' → ZI K G ft σ H' F' env st' → Paired (RRepP K (M G ft F') H' F') ts vs → Q vs H'
def rdV (z : ZE) : TA := fun σ H Q => ∃ ft F env st ts st', ZI K G ft σ H F env st ∧ evE z env st = some (.list ts, st') ∧ ∀ vs H' F', Step ft H F H' F' → ZI K G ft σ H' F' env st' → RepL K H' F' ts vs → Q vs H'
end
section
variable (C : Ct) (N : List Str) (sc : Scope)
def QE (e : Expr) (z : ZE) : Prop := ∀ X G, Good C X → X.N = N → X.env.scope = sc → PE X e (rdE X.K G z)
def QR (e : Expr) (z : ZE) : Prop := ∀ X G, Good C X → X.N = N → X.env.scope = sc → PE X e (rdR X.K G z)
def QF (e : Expr) (z : ZE) : Prop := ∀ X G, Good C X → X.N = N → X.env.scope = sc → PE X e (rdF X.K G z)
def QT (e : Expr) (z : ZE) : Prop := ∀ X G, Good C X → X.N = N → X.env.scope = sc → PT X e (rdT X.K G z)
def QW (e : Expr) (z : ZE) : Prop := ∀ X G, Good C X → X.N = N → X.env.scope = sc → PW X e (rdT X.K G z)
def QP (M : Md) (e : Expr) (z : ZE) : Prop := ∀ X G, Good C X → X.N = N → X.env.scope = sc → PE X e (rdP X.K G M z)
def QA (M : Md) (es : List Expr) (z : ZE) : Prop := ∀ X G, Good C X → X.N = N → X.env.scope = sc → PA X es (rdA X.K G M z)
def QV (es : List Expr) (z : ZE) : Prop := ∀ X G, Good C X → X.N = N → X.env.scope = sc → PA X es (rdV X.K G z)
end

theorem _root_.L2.PE.wk {X : Cx} {e : Expr} {t t' : TE} (h : PE X e t) (w : ∀ σ H Q, t' σ H Q → t σ H Q) : PE X e t' := ⟨fun pins s σ H Q I q => h.run pins s σ H Q I (w σ H Q q)⟩
theorem _root_.L2.PT.wk {X : Cx} {e : Expr} {t t' : TT} (h : PT X e t) (w : ∀ σ H Q, t' σ H Q → t σ H Q) : PT X e t' := ⟨fun pins s σ H Q I q => h.run pins s σ H Q I (w σ H Q q)⟩
theorem _root_.L2.PW.wk {X : Cx} {e : Expr} {t t' : TT} (h : PW X e t) (w : ∀ σ H Q, t' σ H Q → t σ H Q) : PW X e t' := ⟨fun wh pins s σ H Q I q => h.run wh pins s σ H Q I (w σ H Q q)⟩
theorem _root_.L2.PA.wk {X : Cx} {es : List Expr} {t t' : TA} (h : PA X es t) (w : ∀ σ H Q, t' σ H Q → t σ H Q) : PA X es t' := ⟨fun pos pins s σ H Q I q => h.run pos pins s σ H Q I (w σ H Q q)⟩
theorem _root_.L2.PS.wk {X : Cx} {e : Stmt} {t t' : TS} (h : PS X e t) (w : ∀ D σ H, t' D σ H → t D σ H) : PS X e t' := ⟨fun pins s σ H D I q => h.run pins s σ H D I (w D σ H q)⟩
theorem _root_.L2.PSs.wk {X : Cx} {e : List Stmt} {t t' : TS} (h : PSs X e t) (w : ∀ D σ H, t' D σ H → t D σ H) : PSs X e t' := ⟨fun pins s σ H D I q => h.run pins s σ H D I (w D σ H q)⟩

section
variable {C : Ct} {N : List Str} {sc : Scope} {x y w : Expr} {z zx zy zw : ZE} {pos : Pos} {es : List Expr}
theorem QE.r (h : QE C N sc x z) : QR C N sc x z := fun X G g n s => (h X G g n s).wk fun σ H Q ⟨ft, F, env, st, r, st', I, ev, q⟩ =>
  ⟨ft, F, env, st, r, st', I, ev, fun v H' F' s I' rp => q v H' F' s I' (I'.hi.rr rp)⟩
theorem QF.e (h : QF C N sc x z) : QE C N sc x z := fun X G g n s => (h X G g n s).wk fun σ H Q ⟨ft, F, env, st, r, st', I, ev, q⟩ =>
  ⟨ft, F, env, st, r, st', I, ev, fun p H' F' s I' hp np ow => by
    obtain ⟨s2, I2⟩ := I.shared s I' hp ow.trk
    exact q _ _ _ s2 I2 ow.rep⟩
theorem QF.r (h : QF C N sc x z) : QR C N sc x z := h.e.r
theorem RR.bool {K ft H F b v} (h : RR K ft H F (.bool b) v) : v = .bl b := by
  have h' : Rep K H F (.bool b) v := h
  unfold Rep at h'
  exact h'
theorem RR.int {K ft H F i v} (h : RR K ft H F (.int i) v) : v = .int i := by
  have h' : Rep K H F (.int i) v := h
  unfold Rep at h'
  exact h'

/-! ### names and constants -/
theorem qe_var (i : Nat) {nm : Str} (hN : N[i]? = some nm := by rfl) (hv : Vis sc nm := by first | exact Or.inl rfl | exact Or.inr (Or.inl rfl) | exact Or.inr (Or.inr rfl)) (hd : (nm == ("__debug__" : Str)) = false := by decide)
    (hcd : (nm == ("__classdict__" : Str)) = false := by decide) : QE C N sc (.Name nm pos) (.var i) := fun X G g n s =>
  (pe_var (i := i) (by rw [n]; exact hN) (by rw [s]; exact hv) hd hcd).wk fun σ H Q ⟨ft, F, env, st, r, st', I, ev, q⟩ => by
    unfold evE at ev
    split at ev
    · rename_i t e
      cases ev
      obtain ⟨v, e1, rp⟩ := I.slot i _ e
      exact ⟨v, e1, q v H F .refl I rp⟩
    · cases ev
theorem qr_rd (i : Nat) {nm : Str} (hN : N[i]? = some nm := by rfl) (hv : Vis sc nm := by first | exact Or.inl rfl | exact Or.inr (Or.inl rfl) | exact Or.inr (Or.inr rfl)) (hd : (nm == ("__debug__" : Str)) = false := by decide)
    (hcd : (nm == ("__classdict__" : Str)) = false := by decide) : QR C N sc (.Name nm pos) (.rd i) := fun X G g n s =>
  (pe_var (i := i) (by rw [n]; exact hN) (by rw [s]; exact hv) hd hcd).wk fun σ H Q ⟨ft, F, env, st, r, st', I, ev, q⟩ => by
    unfold evE at ev
    split at ev
    · rename_i t e
      cases ev
      obtain ⟨v, e1, rp⟩ := I.slot i _ e
      exact ⟨v, e1, q v H F .refl I (I.hi.rr rp)⟩
    · rename_i t e
      cases ev
      obtain ⟨v, e1, rp⟩ := I.slot i _ e
      exact ⟨v, e1, q v H F .refl I (rp.mono fun a h => h.2)⟩
    · rename_i t e
      cases ev
      obtain ⟨p, e1, n1, n2, n3, ow⟩ := I.slot i _ e
      exact ⟨.ref p, e1, q _ H F .refl I (ow.rr n2)⟩
    · cases ev
theorem qe_cst {x : Expr} {d : D} {v : V} (h : ∀ X, PE X x (tC v)) (r : ∀ K H F, Rep K H F d v) : QE C N sc x (.cst d) := fun X G g n s =>
  (h X).wk fun σ H Q ⟨ft, F, env, st, u, st', I, ev, q⟩ => by
    unfold evE at ev
    cases ev
    exact q v H F .refl I (r _ _ _)
theorem qe_int {i j} : QE C N sc (.Constant (.int i) j pos) (.cst (.int i)) := qe_cst (fun _ => pe_int) fun _ _ _ => by unfold Rep; rfl
theorem qe_bl {b j} : QE C N sc (.Constant (.bool b) j pos) (.cst (.bool b)) := qe_cst (fun _ => pe_bl) fun _ _ _ => by unfold Rep; rfl
theorem qe_non {j} : QE C N sc (.Constant .none j pos) (.cst .none) := qe_cst (fun _ => pe_non) fun _ _ _ => by unfold Rep; rfl
theorem qe_str {a j} : QE C N sc (.Constant (.str a) j pos) (.cst (.str a)) := qe_cst (fun _ => pe_str) fun _ _ _ => by unfold Rep; rfl

/-! ### operators by values -/
def rop (K : PySem.W.Frag) (f : D → D → Option D) : R2 := fun x y H Q => ∃ ft F a b r, HL ft H F ∧ RR K ft H F a x ∧ RR K ft H F b y ∧ f a b = some r ∧ ∀ v H' F', Grow H F H' F' → Rep K H' F' r v → Q v H'
def ropF (K : PySem.W.Frag) (f : D → D → Option D) : R2 := fun x y H Q => ∃ ft F a b r, HL ft H F ∧ RR K ft H F a x ∧ RR K ft H F b y ∧ f a b = some r ∧ ∀ p H' F', Grow H F H' F' → H p = none → ¬ F' p → OwnAt K H' F' r p → Q (.ref p) H'
def Op2 (C : Ct) (op : Value → Value → Sem Value) (f : D → D → Option D) : Prop := ∀ X, Good C X → OpR X op (rop X.K f)
def Op2F (C : Ct) (op : Value → Value → Sem Value) (f : D → D → Option D) : Prop := ∀ X, Good C X → OpR X op (ropF X.K f)
def rop1 (K : PySem.W.Frag) (f : D → Option D) : V → Hp → VK → Prop := fun x H Q => ∃ ft F a r, HL ft H F ∧ RR K ft H F a x ∧ f a = some r ∧ ∀ v H' F', Grow H F H' F' → Rep K H' F' r v → Q v H'
def Op1 (C : Ct) (op : Value → Sem Value) (f : D → Option D) : Prop := ∀ X, Good C X → UnR X op (rop1 X.K f)
theorem HI.hl {G ft H F} (h : HI G ft H F) : HL ft H F := ⟨h.trk, h.nft⟩

theorem bin_ev {f : D → D → Option D} {env : Env} {st st' : SD} {r : D} (ev : evE (.op2 f zx zy) env st = some (r, st')) : ∃ a st1 b, evE zx env st = some (a, st1) ∧ evE zy env st1 = some (b, st') ∧ f a b = some r := by
  unfold evE at ev
  cases e1 : evE zx env st with
  | none => rw [e1] at ev; simp at ev
  | some x =>
    rw [e1] at ev
    obtain ⟨a, st1⟩ := x
    simp only [Option.bind_some] at ev
    cases e2 : evE zy env st1 with
    | none => rw [e2] at ev; simp at ev
    | some y =>
      rw [e2] at ev
      obtain ⟨b, st2⟩ := y
      simp only [Option.bind_some] at ev
      cases e3 : f a b with
      | none => rw [e3] at ev; simp at ev
      | some r' =>
        rw [e3] at ev
        simp at ev
        obtain ⟨rfl, rfl⟩ := ev
        exact ⟨a, st1, b, rfl, e2, e3⟩
theorem un_ev {f : D → Option D} {env : Env} {st st' : SD} {r : D} (ev : evE (.op1 f zx) env st = some (r, st')) : ∃ a, evE zx env st = some (a, st') ∧ f a = some r := by
  unfold evE at ev
  cases e1 : evE zx env st with
  | none => rw [e1] at ev; simp at ev
  | some x =>
    rw [e1] at ev
    obtain ⟨a, st1⟩ := x
    simp only [Option.bind_some] at ev
    cases e3 : f a with
    | none => rw [e3] at ev; simp at ev
    | some r' =>
      rw [e3] at ev
      simp at ev
      obtain ⟨rfl, rfl⟩ := ev
      exact ⟨a, rfl, e3⟩

/-- two readings in a row, then an operator by values -/
theorem rd_bin {K : PySem.W.Frag} {G : Act} {f : D → D → Option D} {σ : L2.St} {H : Hp} {Q : VK} (h : rdE K G (.op2 f zx zy) σ H Q) : tOp (rop K f) (rdR K G zx) (rdR K G zy) σ H Q := by
  obtain ⟨ft, F, env, st, r, st', I, ev, q⟩ := h
  obtain ⟨a, st1, b, e1, e2, e3⟩ := bin_ev ev
  refine ⟨ft, F, env, st, a, st1, I, e1, fun v1 H1 F1 s1 I1 r1 => ⟨ft, F1, env, st1, b, st', I1, e2, fun v2 H2 F2 s2 I2 r2 => ?_⟩⟩
  exact ⟨ft, F2, a, b, r, I2.hi.hl, s2.rr I1.hi r1, r2, e3, fun v H' F' g rp => q v H' F' ((s1.trans s2).trans g.step) (I2.grow g) rp⟩
theorem rd_binF {K : PySem.W.Frag} {G : Act} {f : D → D → Option D} {σ : L2.St} {H : Hp} {Q : VK} (h : rdF K G (.op2 f zx zy) σ H Q) : tOp (ropF K f) (rdR K G zx) (rdR K G zy) σ H Q := by
  obtain ⟨ft, F, env, st, r, st', I, ev, q⟩ := h
  obtain ⟨a, st1, b, e1, e2, e3⟩ := bin_ev ev
  refine ⟨ft, F, env, st, a, st1, I, e1, fun v1 H1 F1 s1 I1 r1 => ⟨ft, F1, env, st1, b, st', I1, e2, fun v2 H2 F2 s2 I2 r2 => ?_⟩⟩
  exact ⟨ft, F2, a, b, r, I2.hi.hl, s2.rr I1.hi r1, r2, e3, fun p H' F' g hp np ow => q p H' F' ((s1.trans s2).trans g.step) (I2.grow g) ((s1.trans s2).bk0 hp) np ow⟩
theorem qe_op {op : Operator} {f : D → D → Option D} (ho : Op2 C (binaryOp op) f) (hx : QR C N sc x zx) (hy : QR C N sc y zy) : QE C N sc (.BinOp x op y pos) (.op2 f zx zy) := fun X G g n s =>
  (pe_op (ho X g) (hx X G g n s) (hy X G g n s)).wk fun σ H Q h => rd_bin h
theorem qf_op {op : Operator} {f : D → D → Option D} (ho : Op2F C (binaryOp op) f) (hx : QR C N sc x zx) (hy : QR C N sc y zy) : QF C N sc (.BinOp x op y pos) (.op2 f zx zy) := fun X G g n s =>
  (pe_op (ho X g) (hx X G g n s) (hy X G g n s)).wk fun σ H Q h => rd_binF h
theorem qe_un {op : UnaryOp} {f : D → Option D} (ho : Op1 C (unaryOp op) f) (hx : QR C N sc x zx) : QE C N sc (.UnaryOp op x pos) (.op1 f zx) := fun X G g n s =>
  (pe_un (ho X g) (hx X G g n s)).wk fun σ H Q ⟨ft, F, env, st, r, st', I, ev, q⟩ => by
    obtain ⟨a, e1, e3⟩ := un_ev ev
    exact ⟨ft, F, env, st, a, st', I, e1, fun v1 H1 F1 s1 I1 r1 => ⟨ft, F1, a, r, I1.hi.hl, r1, e3, fun v H' F' g rp => q v H' F' (s1.trans g.step) (I1.grow g) rp⟩⟩
theorem qe_cmp {op : CmpOp} {f : D → D → Option D} (ho : Op2 C (compareOp op) f) (hx : QR C N sc x zx) (hy : QR C N sc y zy) (hm : behindInMarks op y = false := by first | exact nobehind _ (by decide) (by decide) | rfl) : QE C N sc (.Compare x [op] [y] pos) (.op2 f zx zy) := fun X G g n s =>
  (pe_cmpR (ho X g) (hx X G g n s) (hy X G g n s) hm).wk fun σ H Q h => rd_bin h
theorem qt_cmp {op : CmpOp} {f : D → D → Option D} (ho : Op2 C (compareOp op) f) (hx : QR C N sc x zx) (hy : QR C N sc y zy) (hm : behindInMarks op y = false := by first | exact nobehind _ (by decide) (by decide) | rfl) : QT C N sc (.Compare x [op] [y] pos) (.op2 f zx zy) := fun X G g n s =>
  (pt_cmpR (ho X g) (hx X G g n s) (hy X G g n s) hm).wk fun σ H Q ⟨ft, F, env, st, b, st', I, ev, q⟩ => by
    refine rd_bin (Q := fun v H' => ∃ k, v = .bl k ∧ Q k H') ⟨ft, F, env, st, .bool b, st', I, ev, fun v H' F' s I' rp => ?_⟩
    unfold Rep at rp
    exact ⟨b, rp, q H' F' s I'⟩
/-- an expression with a truth value, as a test -/
theorem qt_val (h : QE C N sc x z) (he : ∀ (env : PySem.Env) (whole : Sem Value), isTrue x env whole = (do let v ← whole; standAt x.pos; holding [v] (truthy v)) := by intro _ _; rfl) : QT C N sc x z := fun X G g n s =>
  (pt_val (h X G g n s) (he _)).wk fun σ H Q ⟨ft, F, env, st, b, st', I, ev, q⟩ => by
    refine ⟨ft, F, env, st, .bool b, st', I, ev, fun v H' F' s I' rp => ?_⟩
    unfold Rep at rp
    exact ⟨b, rp, q H' F' s I'⟩

/-- truth of lists, tuples, dicts, numbers -/
def dTru : D → Option D
  | .bool b => some (.bool b)
  | .none => some (.bool false)
  | .int i => some (.bool (i != 0))
  | .list ts => some (.bool (!ts.isEmpty))
  | .tuple ts => some (.bool (!ts.isEmpty))
  | .dict ts => some (.bool (!ts.isEmpty))
  | .str _ => none
theorem emp_eq {α β : Type} {l : List α} {r : List β} (h : l.length = r.length) : l.isEmpty = r.isEmpty := by
  cases l <;> cases r <;> simp_all
theorem RepD.length {K H F} : ∀ {ts : List (D × D)} {xs : List (Key × V)}, RepD K H F ts xs → xs.length = ts.length
  | [], xs, h => by unfold RepD at h; subst h; rfl
  | (k, t) :: ts, xs, h => by
    unfold RepD at h
    obtain ⟨y, x, ys, e, _, _, h2⟩ := h
    subst e
    rw [List.length_cons, List.length_cons, RepD.length h2]
theorem tru_of {K ft H F d v b} (h : RR K ft H F d v) (e : dTru d = some (.bool b)) : TruV K v H b := by
  cases d with
  | none =>
    have h' : Rep K H F .none v := h
    unfold Rep at h'
    subst h'
    simp [dTru] at e
    exact e
  | bool c => rw [RR.bool h]; simp [dTru] at e; exact e.symm
  | int i => rw [RR.int h]; simp [dTru] at e; exact e.symm
  | str x => simp [dTru] at e
  | list ts =>
    obtain ⟨a, xs, rfl, h1, h2⟩ := h
    injection e with e
    injection e with e
    refine .inl ⟨xs, h1.sq, ?_⟩
    rw [emp_eq h2.length]
    exact e.symm
  | tuple ts =>
    have h' : Rep K H F (.tuple ts) v := h
    unfold Rep at h'
    obtain ⟨a, xs, rfl, h1, h2⟩ := h'
    injection e with e
    injection e with e
    refine .inr (.inl ⟨xs, h1.sq, ?_⟩)
    rw [emp_eq h2.length]
    exact e.symm
  | dict ts =>
    obtain ⟨a, xs, rfl, h0, h1, h2⟩ := h
    injection e with e
    injection e with e
    refine .inr (.inr ⟨xs, h1, ?_⟩)
    rw [emp_eq h2.length]
    exact e.symm
theorem qt_tru (h : QR C N sc x z) (he : ∀ (env : PySem.Env) (whole : Sem Value), isTrue x env whole = (do let v ← whole; standAt x.pos; holding [v] (truthy v)) := by intro _ _; rfl) : QT C N sc x (.op1 dTru z) := fun X G g n s =>
  (pt_truth (h X G g n s) (he _)).wk fun σ H Q ⟨ft, F, env, st, b, st', I, ev, q⟩ => by
    obtain ⟨a, e1, e3⟩ := un_ev ev
    exact ⟨ft, F, env, st, a, st', I, e1, fun v H' F' s I' rr => ⟨b, tru_of rr e3, q H' F' s I'⟩⟩

/-! ### and, or, not -/
theorem band_ev {env : Env} {st st' : SD} {r : D} (ev : evE (.band zx zy) env st = some (r, st')) : ∃ c st1, evE zx env st = some (.bool c, st1) ∧ if c = true then evE zy env st1 = some (r, st') else r = .bool false ∧ st' = st1 := by
  unfold evE at ev
  cases e1 : evE zx env st with
  | none => rw [e1] at ev; simp at ev
  | some a =>
    obtain ⟨a, st1⟩ := a
    rw [e1] at ev
    cases a <;> simp [evBool] at ev
    rename_i c
    refine ⟨c, st1, rfl, ?_⟩
    cases c
    · simp at ev ⊢; exact ⟨ev.1.symm, ev.2.symm⟩
    · simpa using ev
theorem bor_ev {env : Env} {st st' : SD} {r : D} (ev : evE (.bor zx zy) env st = some (r, st')) : ∃ c st1, evE zx env st = some (.bool c, st1) ∧ if c = true then r = .bool true ∧ st' = st1 else evE zy env st1 = some (r, st') := by
  unfold evE at ev
  cases e1 : evE zx env st with
  | none => rw [e1] at ev; simp at ev
  | some a =>
    obtain ⟨a, st1⟩ := a
    rw [e1] at ev
    cases a <;> simp [evBool] at ev
    rename_i c
    refine ⟨c, st1, rfl, ?_⟩
    cases c
    · simpa using ev
    · simp at ev ⊢; exact ⟨ev.1.symm, ev.2.symm⟩
theorem ife_ev {env : Env} {st st' : SD} {r : D} (ev : evE (.ife zx zy zw) env st = some (r, st')) : ∃ c st1, evE zx env st = some (.bool c, st1) ∧ if c = true then evE zy env st1 = some (r, st') else evE zw env st1 = some (r, st') := by
  unfold evE at ev
  cases e1 : evE zx env st with
  | none => rw [e1] at ev; simp at ev
  | some a =>
    obtain ⟨a, st1⟩ := a
    rw [e1] at ev
    cases a <;> simp [evBool] at ev
    rename_i c
    refine ⟨c, st1, rfl, ?_⟩
    cases c <;> simpa using ev
theorem rep_bl {K H F b} : Rep K H F (.bool b) (.bl b) := by unfold Rep; rfl
theorem qw_and1 (hx : QT C N sc x zx) : QW C N sc (.BoolOp .And [x] pos) zx := fun X G g n s => pw_and1 (hx X G g n s)
theorem qw_or1 (hx : QT C N sc x zx) : QW C N sc (.BoolOp .Or [x] pos) zx := fun X G g n s => pw_or1 (hx X G g n s)
theorem qw_and {rest : List Expr} (hx : QT C N sc x zx) (hy : QW C N sc (.BoolOp .And (y :: rest) pos) zy) : QW C N sc (.BoolOp .And (x :: y :: rest) pos) (.band zx zy) := fun X G g n s =>
  (pw_and (hx X G g n s) (hy X G g n s)).wk fun σ H Q ⟨ft, F, env, st, b, st', I, ev, q⟩ => by
    obtain ⟨c, st1, e1, e2⟩ := band_ev ev
    refine ⟨ft, F, env, st, c, st1, I, e1, fun H1 F1 s1 I1 => ?_⟩
    cases c with
    | true => exact ⟨ft, F1, env, st1, b, st', I1, by simpa using e2, fun H' F' s I' => q H' F' (s1.trans s) I'⟩
    | false =>
      simp at e2
      obtain ⟨rfl, rfl⟩ := e2
      exact q H1 F1 s1 I1
theorem qw_or {rest : List Expr} (hx : QT C N sc x zx) (hy : QW C N sc (.BoolOp .Or (y :: rest) pos) zy) : QW C N sc (.BoolOp .Or (x :: y :: rest) pos) (.bor zx zy) := fun X G g n s =>
  (pw_or (hx X G g n s) (hy X G g n s)).wk fun σ H Q ⟨ft, F, env, st, b, st', I, ev, q⟩ => by
    obtain ⟨c, st1, e1, e2⟩ := bor_ev ev
    refine ⟨ft, F, env, st, c, st1, I, e1, fun H1 F1 s1 I1 => ?_⟩
    cases c with
    | false => exact ⟨ft, F1, env, st1, b, st', I1, by simpa using e2, fun H' F' s I' => q H' F' (s1.trans s) I'⟩
    | true =>
      simp at e2
      obtain ⟨rfl, rfl⟩ := e2
      exact q H1 F1 s1 I1
theorem QW.t (h : QW C N sc x z) : QT C N sc x z := fun X G g n s => (h X G g n s).pt
def dNot : D → Option D
  | .bool b => some (.bool !b)
  | _ => none
theorem dNot_ev {d : D} {b : Bool} (h : dNot d = some (.bool b)) : d = .bool !b := by
  cases d <;> simp [dNot] at h
  subst h
  simp
theorem qt_not (hx : QT C N sc x zx) : QT C N sc (.UnaryOp .Not x pos) (.op1 dNot zx) := fun X G g n s =>
  (pt_not (hx X G g n s)).wk fun σ H Q ⟨ft, F, env, st, b, st', I, ev, q⟩ => by
    obtain ⟨a, e1, e3⟩ := un_ev ev
    obtain rfl := dNot_ev e3
    exact ⟨ft, F, env, st, !b, st', I, e1, fun H' F' s I' => by
      have := q H' F' s I'
      simpa using this⟩
theorem qe_one {op} (hx : QE C N sc x zx) : QE C N sc (.BoolOp op [x] pos) zx := fun X G g n s => pe_one (hx X G g n s)
theorem qe_and {rest : List Expr} (hx : QE C N sc x zx) (hy : QE C N sc (.BoolOp .And (y :: rest) pos) zy) : QE C N sc (.BoolOp .And (x :: y :: rest) pos) (.band zx zy) := fun X G g n s =>
  (pe_and (hx X G g n s) (hy X G g n s)).wk fun σ H Q ⟨ft, F, env, st, b, st', I, ev, q⟩ => by
    obtain ⟨c, st1, e1, e2⟩ := band_ev ev
    refine ⟨ft, F, env, st, .bool c, st1, I, e1, fun v1 H1 F1 s1 I1 r1 => ?_⟩
    unfold Rep at r1
    refine ⟨c, r1, ?_⟩
    cases c with
    | true => exact ⟨ft, F1, env, st1, b, st', I1, by simpa using e2, fun v H' F' s I' r => q v H' F' (s1.trans s) I' r⟩
    | false =>
      simp at e2
      obtain ⟨rfl, rfl⟩ := e2
      exact q _ H1 F1 s1 I1 rep_bl
theorem qe_or {rest : List Expr} (hx : QE C N sc x zx) (hy : QE C N sc (.BoolOp .Or (y :: rest) pos) zy) : QE C N sc (.BoolOp .Or (x :: y :: rest) pos) (.bor zx zy) := fun X G g n s =>
  (pe_or (hx X G g n s) (hy X G g n s)).wk fun σ H Q ⟨ft, F, env, st, b, st', I, ev, q⟩ => by
    obtain ⟨c, st1, e1, e2⟩ := bor_ev ev
    refine ⟨ft, F, env, st, .bool c, st1, I, e1, fun v1 H1 F1 s1 I1 r1 => ?_⟩
    unfold Rep at r1
    refine ⟨c, r1, ?_⟩
    cases c with
    | false => exact ⟨ft, F1, env, st1, b, st', I1, by simpa using e2, fun v H' F' s I' r => q v H' F' (s1.trans s) I' r⟩
    | true =>
      simp at e2
      obtain ⟨rfl, rfl⟩ := e2
      exact q _ H1 F1 s1 I1 rep_bl
theorem qe_not (hx : QE C N sc x zx) : QE C N sc (.UnaryOp .Not x pos) (.op1 dNot zx) := fun X G g n s =>
  (pe_not (hx X G g n s)).wk fun σ H Q ⟨ft, F, env, st, r, st', I, ev, q⟩ => by
    obtain ⟨a, e1, e3⟩ := un_ev ev
    cases a <;> simp [dNot] at e3
    rename_i b
    subst e3
    refine ⟨ft, F, env, st, .bool b, st', I, e1, fun v1 H1 F1 s1 I1 r1 => ?_⟩
    unfold Rep at r1
    exact ⟨b, r1, q _ H1 F1 s1 I1 rep_bl⟩
theorem qe_ife (hw : QT C N sc w zx) (hx : QE C N sc x zy) (hy : QE C N sc y zw) : QE C N sc (.IfExp w x y pos) (.ife zx zy zw) := fun X G g n s =>
  (pe_ifExp (hw X G g n s) (hx X G g n s) (hy X G g n s)).wk fun σ H Q ⟨ft, F, env, st, b, st', I, ev, q⟩ => by
    obtain ⟨c, st1, e1, e2⟩ := ife_ev ev
    refine ⟨ft, F, env, st, c, st1, I, e1, fun H1 F1 s1 I1 => ?_⟩
    cases c with
    | true => exact ⟨ft, F1, env, st1, b, st', I1, by simpa using e2, fun v H' F' s I' r => q v H' F' (s1.trans s) I' r⟩
    | false => exact ⟨ft, F1, env, st1, b, st', I1, by simpa using e2, fun v H' F' s I' r => q v H' F' (s1.trans s) I' r⟩
theorem qr_ife (hw : QT C N sc w zx) (hx : QR C N sc x zy) (hy : QR C N sc y zw) : QR C N sc (.IfExp w x y pos) (.ife zx zy zw) := fun X G g n s =>
  (pe_ifExp (hw X G g n s) (hx X G g n s) (hy X G g n s)).wk fun σ H Q ⟨ft, F, env, st, b, st', I, ev, q⟩ => by
    obtain ⟨c, st1, e1, e2⟩ := ife_ev ev
    refine ⟨ft, F, env, st, c, st1, I, e1, fun H1 F1 s1 I1 => ?_⟩
    cases c with
    | true => exact ⟨ft, F1, env, st1, b, st', I1, by simpa using e2, fun v H' F' s I' r => q v H' F' (s1.trans s) I' r⟩
    | false => exact ⟨ft, F1, env, st1, b, st', I1, by simpa using e2, fun v H' F' s I' r => q v H' F' (s1.trans s) I' r⟩
theorem qf_ife (hw : QT C N sc w zx) (hx : QF C N sc x zy) (hy : QF C N sc y zw) : QF C N sc (.IfExp w x y pos) (.ife zx zy zw) := fun X G g n s =>
  (pe_ifExp (hw X G g n s) (hx X G g n s) (hy X G g n s)).wk fun σ H Q ⟨ft, F, env, st, b, st', I, ev, q⟩ => by
    obtain ⟨c, st1, e1, e2⟩ := ife_ev ev
    refine ⟨ft, F, env, st, c, st1, I, e1, fun H1 F1 s1 I1 => ?_⟩
    cases c with
    | true => exact ⟨ft, F1, env, st1, b, st', I1, by simpa using e2, fun v H' F' s I' hp np r => q v H' F' (s1.trans s) I' (s1.bk0 hp) np r⟩
    | false => exact ⟨ft, F1, env, st1, b, st', I1, by simpa using e2, fun v H' F' s I' hp np r => q v H' F' (s1.trans s) I' (s1.bk0 hp) np r⟩
end
end Z
namespace Z
open PySem PySem.Spec PyProof.Rows L2
section
variable {C : Ct} {N : List Str} {sc : Scope} {x y w : Expr} {z zx zy zw : ZE} {pos : Pos} {es : List Expr} {M : Md}

theorem QR.p (h : QR C N sc x z) : QP C N sc Mr x z := h
theorem QP.r (h : QP C N sc Mr x z) : QR C N sc x z := h
theorem QE.p (ok : MdOk M) (h : QE C N sc x z) : QP C N sc M x z := fun X G g n s => (h X G g n s).wk fun σ H Q ⟨ft, F, env, st, r, st', I, ev, q⟩ =>
  ⟨ft, F, env, st, r, st', I, ev, fun v H' F' s I' rp => q v H' F' s I' (RRepP.of (fun a f => ok.sh I'.hi.nft f) rp)⟩
theorem QE.s (h : QE C N sc x z) : QP C N sc Ms x z := h.p ms_ok
theorem qs_sr (i : Nat) {nm : Str} (hN : N[i]? = some nm := by rfl) (hv : Vis sc nm := by first | exact Or.inl rfl | exact Or.inr (Or.inl rfl) | exact Or.inr (Or.inr rfl)) (hd : (nm == ("__debug__" : Str)) = false := by decide)
    (hcd : (nm == ("__classdict__" : Str)) = false := by decide) : QP C N sc Ms (.Name nm pos) (.sr i) := fun X G g n s =>
  (pe_var (i := i) (by rw [n]; exact hN) (by rw [s]; exact hv) hd hcd).wk fun σ H Q ⟨ft, F, env, st, r, st', I, ev, q⟩ => by
    unfold evE at ev
    split at ev
    · rename_i t e
      cases ev
      obtain ⟨v, e1, rp⟩ := I.slot i _ e
      exact ⟨v, e1, q v H F .refl I (RRepP.of (fun a f => .inl f) rp)⟩
    · rename_i t e
      cases ev
      obtain ⟨v, e1, rp⟩ := I.slot i _ e
      exact ⟨v, e1, q v H F .refl I (rp.mono fun a h => .inr h)⟩
    · cases ev

/-! ### argument lists -/
theorem acons_ev {env : Env} {st st' : SD} {r : D} (ev : evE (.acons zx zy) env st = some (r, st')) : ∃ a st1 l, evE zx env st = some (a, st1) ∧ evE zy env st1 = some (.list l, st') ∧ r = .list (a :: l) := by
  unfold evE at ev
  cases e1 : evE zx env st with
  | none => rw [e1] at ev; simp at ev
  | some a =>
    obtain ⟨a, st1⟩ := a
    rw [e1] at ev
    simp only [Option.bind_some] at ev
    cases e2 : evE zy env st1 with
    | none => rw [e2] at ev; simp at ev
    | some b =>
      obtain ⟨b, st2⟩ := b
      rw [e2] at ev
      simp only [Option.bind_some] at ev
      cases b <;> simp [evList] at ev
      obtain ⟨rfl, rfl⟩ := ev
      exact ⟨a, st1, _, rfl, e2, rfl⟩
theorem qa_nil : QA C N sc M [] .anil := fun X G g n s => PA.wk pa_nil fun σ H Q ⟨ft, F, env, st, ts, st', I, ev, q⟩ => by
  unfold evE at ev
  cases ev
  exact q [] H F .refl I .nil
theorem Step.rp {K G ft H F H' F'} (ok : MdOk M) (h : HI G ft H F) (s : Step ft H F H' F') {t : D} {v : V} (r : RRepP K (M G ft F) H F t v) : RRepP K (M G ft F') H' F' t v :=
  RRepP.keep (fun a o f e => s.keep a o e (ok.out h.nft f)) (fun _ m => ok.mono s.old m) (fun a o f e => s.keep a o e (h.nft a f)) s.old r
theorem qa_cons (ok : MdOk M) (hx : QP C N sc M x zx) (hy : QA C N sc M es zy) (hs : ∀ env : PySem.Env, starEach (x :: es) env = (false, eval x env) :: starEach es env := by intro _; rfl) : QA C N sc M (x :: es) (.acons zx zy) := fun X G g n s =>
  (pa_cons (hx X G g n s) (hy X G g n s) (hs _)).wk fun σ H Q ⟨ft, F, env, st, ts, st', I, ev, q⟩ => by
    obtain ⟨a, st1, l, e1, e2, e3⟩ := acons_ev ev
    cases e3
    refine ⟨ft, F, env, st, a, st1, I, e1, fun v1 H1 F1 s1 I1 r1 => ⟨ft, F1, env, st1, l, st', I1, e2, fun vs H2 F2 s2 I2 r2 => ?_⟩⟩
    exact q _ H2 F2 (s1.trans s2) I2 (.cons (s2.rp ok I1.hi r1) r2)
theorem qa_r (hx : QR C N sc x zx) (hy : QA C N sc Mr es zy) (hs : ∀ env : PySem.Env, starEach (x :: es) env = (false, eval x env) :: starEach es env := by intro _; rfl) : QA C N sc Mr (x :: es) (.acons zx zy) := qa_cons mr_ok hx hy hs
theorem qv_nil : QV C N sc [] .anil := fun X G g n s => PA.wk pa_nil fun σ H Q ⟨ft, F, env, st, ts, st', I, ev, q⟩ => by
  unfold evE at ev
  cases ev
  exact q [] H F .refl I .nil
theorem qv_cons (hx : QE C N sc x zx) (hy : QV C N sc es zy) (hs : ∀ env : PySem.Env, starEach (x :: es) env = (false, eval x env) :: starEach es env := by intro _; rfl) : QV C N sc (x :: es) (.acons zx zy) := fun X G g n s =>
  (pa_cons (hx X G g n s) (hy X G g n s) (hs _)).wk fun σ H Q ⟨ft, F, env, st, ts, st', I, ev, q⟩ => by
    obtain ⟨a, st1, l, e1, e2, e3⟩ := acons_ev ev
    cases e3
    refine ⟨ft, F, env, st, a, st1, I, e1, fun v1 H1 F1 s1 I1 r1 => ⟨ft, F1, env, st1, l, st', I1, e2, fun vs H2 F2 s2 I2 r2 => ?_⟩⟩
    exact q _ H2 F2 (s1.trans s2) I2 (.cons (s2.rep I1.hi r1) r2)

/-! ### displays -/
theorem sl_eq : sizeLine = 16777216 := by decide
theorem disp_ev {env : Env} {st st' : SD} {r : D} {a : Option (D × SD)} {k : List D → D} (ev : (a.bind fun x => (evList x).bind fun l => if l.1.length ≤ 16777216 then some (k l.1, l.2) else none) = some (r, st')) :
    ∃ l, a = some (.list l, st') ∧ l.length ≤ 16777216 ∧ r = k l := by
  cases a with
  | none => simp at ev
  | some a =>
    obtain ⟨a, st1⟩ := a
    cases a <;> simp [evList] at ev
    obtain ⟨h, e1, e2⟩ := ev
    subst e2
    exact ⟨_, rfl, h, e1.symm⟩
theorem qf_lst (h : QV C N sc es z) : QF C N sc (.List es pos) (.lst z) := fun X G g n s =>
  (pe_lst (h X G g n s)).wk fun σ H Q ⟨ft, F, env, st, r, st', I, ev, q⟩ => by
    unfold evE at ev
    obtain ⟨l, e1, hl, rfl⟩ := disp_ev (env := env) (st := st) ev
    refine ⟨ft, F, env, st, l, st', I, e1, fun vs H1 F1 s1 I1 r1 => ⟨by rw [sl_eq, r1.length]; exact hl, fun p hp => ?_⟩⟩
    have gr : Grow H1 F1 (upd H1 p (.lst vs)) F1 := Grow.own I1.hi hp
    exact q p _ F1 (s1.trans gr.step) (I1.grow gr) (s1.bk0 hp) (I1.hi.fresh hp).2.2 ⟨vs, upd_same, RepL.keep (fun a o _ e => gr.same a o e) (fun _ h => h) l r1⟩
theorem qe_tup {k} (h : QV C N sc es z) : QE C N sc (.Tuple es k pos) (.tup z) := fun X G g n s =>
  (pe_tup (h X G g n s)).wk fun σ H Q ⟨ft, F, env, st, r, st', I, ev, q⟩ => by
    unfold evE at ev
    obtain ⟨l, e1, hl, rfl⟩ := disp_ev (env := env) (st := st) ev
    refine ⟨ft, F, env, st, l, st', I, e1, fun vs H1 F1 s1 I1 r1 => ⟨by rw [sl_eq, r1.length]; exact hl, fun p hp => ?_⟩⟩
    have gr : Grow H1 F1 (upd H1 p (.tup vs)) (fun a => F1 a ∨ a = p) := Grow.sh I1.hi hp
    refine q _ _ _ (s1.trans gr.step) (I1.grow gr) ?_
    unfold Rep
    exact ⟨p, vs, rfl, .inl ⟨.inr rfl, .inl upd_same⟩, RepL.keep (fun a o _ e => gr.same a o e) (fun _ h => .inl h) l r1⟩

/-! ### calls -/
theorem bi_ev {f : List D → Option D} {a : Option (D × SD)} {st' : SD} {r : D} (ev : (a.bind fun x => (evList x).bind fun l => (f l.1).map fun r => (r, l.2)) = some (r, st')) : ∃ l, a = some (.list l, st') ∧ f l = some r := by
  cases a with
  | none => simp at ev
  | some a =>
    obtain ⟨a, st1⟩ := a
    cases a <;> simp [evList] at ev
    obtain ⟨h, e1, rfl, rfl⟩ := ev
    exact ⟨_, rfl, e1⟩
theorem Paired.mp {α β : Type} {R S : α → β → Prop} (h : ∀ a b, R a b → S a b) : ∀ {l : List α} {m : List β}, Paired R l m → Paired S l m
  | _, _, .nil => .nil
  | _, _, .cons r t => .cons (h _ _ r) (Paired.mp h t)
theorem RR.nil {K ft H F t v} (h : RR K ft H F t v) : RR K [] H F t v := h.mono fun _ _ => by simp
theorem gl_of {X : Cx} {nm : Str} (hs : X.env.scope = sc) (h : sc.names.lookup nm = some .globalImplicit) : Gl X nm := by
  show X.env.scope.names.lookup nm = _
  rw [hs]; exact h
theorem Grow.hl {ft H F H' F'} (h : HL ft H F) (g : Grow H F H' F') (ftk : ∀ a ∈ ft, H a ≠ none) : HL ft H' F' :=
  ⟨g.trk, fun a f z => (g.new a f).elim (fun f => h.nft a f z) fun e => ftk a z e⟩
theorem HI.step {G ft H F H' F'} (h : HI G ft H F) (s : Step ft H F H' F') (l : HL ft H' F') : HI G ft H' F' where
  trk := l.trk
  nft := l.nft
  keep := fun a o e n => s.keep a o (h.keep a o e n) n
  there := fun a n => s.there a (h.there a n)
  old := fun a f => s.old a (h.old a f)
  new := fun a f => by
    rcases s.new a f with f | f
    · exact h.new a f
    · refine .inr ?_
      cases e : G.H0 a with
      | none => rfl
      | some o => exact absurd f (h.there a (by simp [e]))
  ftk := fun a z => s.there a (h.ftk a z)
  pf := h.pf
  fn := h.fn

theorem qe_call {nm : Str} {p : Pos} {f : List D → Option D} (hT : ⟨nm, .pl f⟩ ∈ C.fes) (ha : QA C N sc Mr (x :: es) z) (hg : sc.names.lookup nm = some .globalImplicit := by rfl) (hdb : (nm == ("__debug__" : Str)) = false := by decide)
    (he : ∀ env : PySem.Env, starEach (x :: es) env = (false, eval x env) :: starEach es env := by intro _; rfl) (hpl : ∀ env : PySem.Env, (backTo pos (starEach es env)).any (·.1) = false := by intro _; rfl) : QE C N sc (.Call (.Name nm p) (x :: es) [] pos) (.call f z) := fun X G g n s => by
  obtain ⟨k, fa, fd, ps, ok, hr, hm, hk, hb⟩ := g.tab _ hT
  refine (pe_call (E := E0) ok hr (gl_of s hg) hm hk hb .nil pass0 (ha X G g n s) hdb (he _) (hpl _)).wk fun σ H Q ⟨ft, F, env, st, r, st', I, ev, q⟩ => ?_
  unfold evE at ev
  obtain ⟨l, e1, e2⟩ := bi_ev ev
  refine ⟨ft, F, env, st, l, st', I, e1, fun vs H1 F1 s1 I1 r1 => ?_⟩
  show spOf X.K (.pl f) (vs ++ []) H1 Q E0
  rw [List.append_nil]
  exact ⟨F1, l, r, ⟨I1.hi.trk, fun _ _ => by simp⟩, Paired.mp (fun _ _ h => RR.nil h) r1, e2, fun v H' F' gr rp => q v H' F' (s1.trans gr.step) (I1.grow gr) rp⟩
theorem calls_ev {i : Nat} {f : D → List D → Option (D × D)} {env : Env} {st st' : SD} {r : D} (ev : evE (.calls i f zx) env st = some (r, st')) :
    env[i]? = some .st ∧ ∃ l t t', evE zx env st = some (.list l, some t) ∧ f t l = some (r, t') ∧ st' = some t' := by
  unfold evE at ev
  split at ev
  · rename_i e
    refine ⟨e, ?_⟩
    cases e1 : evE zx env st with
    | none => rw [e1] at ev; simp at ev
    | some a =>
      obtain ⟨a, st1⟩ := a
      rw [e1] at ev
      cases a <;> simp [evList] at ev
      rename_i l
      cases st1 with
      | none => simp at ev
      | some t =>
        simp at ev
        obtain ⟨a, t', e2, rfl, e3⟩ := ev
        exact ⟨l, t, t', rfl, e2, e3.symm⟩
  · cases ev
theorem qe_calls (i : Nat) {nm sn : Str} {p ps : Pos} {f : D → List D → Option (D × D)} (hT : ⟨nm, .sf f⟩ ∈ C.fes) (ha : QA C N sc Mr es z) (hg : sc.names.lookup nm = some .globalImplicit := by rfl) (hN : N[i]? = some sn := by rfl)
    (hv : Vis sc sn := by first | exact Or.inl rfl | exact Or.inr (Or.inl rfl) | exact Or.inr (Or.inr rfl)) (hdb : (nm == ("__debug__" : Str)) = false := by decide)
    (hd : (sn == ("__debug__" : Str)) = false := by decide) (hcd : (sn == ("__classdict__" : Str)) = false := by decide)
    (he : ∀ env : PySem.Env, starEach (.Name sn ps :: es) env = (false, eval (.Name sn ps) env) :: starEach es env := by intro _; rfl) (hpl : ∀ env : PySem.Env, (backTo pos (starEach es env)).any (·.1) = false := by intro _; rfl) :
    QE C N sc (.Call (.Name nm p) (.Name sn ps :: es) [] pos) (.calls i f z) := fun X G g n s => by
  obtain ⟨k, fa, fd, ps, ok, hr, hm, hk, hb⟩ := g.tab _ hT
  refine (pe_call (E := E0) ok hr (gl_of s hg) hm hk hb .nil pass0 (pa_cons (pe_var (i := i) (by rw [n]; exact hN) (by rw [s]; exact hv) hd hcd) (ha X G g n s) (he _)) hdb (he _) (hpl _)).wk fun σ H Q ⟨ft, F, env, st, r, st', I, ev, q⟩ => ?_
  obtain ⟨e0, l, t, t', e1, e2, rfl⟩ := calls_ev ev
  obtain ⟨v0, t0, es0, es1, sr0⟩ := I.slot i _ e0
  refine ⟨v0, es0, ft, F, env, st, l, some t, I, e1, fun vs H1 F1 s1 I1 r1 => ?_⟩
  obtain ⟨v1, t1, eq1, eq2, sr1⟩ := I1.slot i _ e0
  rw [es0] at eq1
  cases eq1
  cases eq2
  show spOf X.K (.sf f) ((v0 :: vs) ++ []) H1 Q E0
  rw [List.append_nil]
  refine ⟨ft, v0, vs, F1, l, t, r, t', rfl, sr1, I1.hi.hl, r1, e2, fun v H' F' s2 hl sr rp => ?_⟩
  exact q v H' F' (s1.trans s2) (I1.step s2 (I1.hi.step s2 hl) ⟨v0, sr⟩) rp

/-! ### builtins by values -/
def ropC (K : PySem.W.Frag) (f : List D → Option D) : List V → Hp → VK → Prop := fun vs H Q => ∃ ft F ts r, HL ft H F ∧ RRs K ft H F ts vs ∧ f ts = some r ∧ ∀ v H' F', Grow H F H' F' → Rep K H' F' r v → Q v H'
def ropCF (K : PySem.W.Frag) (f : List D → Option D) : List V → Hp → VK → Prop := fun vs H Q => ∃ ft F ts r, HL ft H F ∧ RRs K ft H F ts vs ∧ f ts = some r ∧ ∀ p H' F', Grow H F H' F' → H p = none → ¬ F' p → OwnAt K H' F' r p → Q (.ref p) H'
def OpC (C : Ct) (op : Value) (f : List D → Option D) : Prop := ∀ X, Good C X → CallR X op (ropC X.K f)
def OpCF (C : Ct) (op : Value) (f : List D → Option D) : Prop := ∀ X, Good C X → CallR X op (ropCF X.K f)
theorem rd_bi {K : PySem.W.Frag} {G : Act} {f : List D → Option D} {σ : L2.St} {H : Hp} {Q : VK} (h : rdE K G (.bi f z) σ H Q) : tCB (ropC K f) (rdA K G Mr z) σ H Q := by
  obtain ⟨ft, F, env, st, r, st', I, ev, q⟩ := h
  unfold evE at ev
  obtain ⟨l, e1, e2⟩ := bi_ev ev
  exact ⟨ft, F, env, st, l, st', I, e1, fun vs H1 F1 s1 I1 r1 => ⟨ft, F1, l, r, I1.hi.hl, r1, e2, fun v H' F' gr rp => q v H' F' (s1.trans gr.step) (I1.grow gr) rp⟩⟩
theorem rd_biF {K : PySem.W.Frag} {G : Act} {f : List D → Option D} {σ : L2.St} {H : Hp} {Q : VK} (h : rdF K G (.bi f z) σ H Q) : tCB (ropCF K f) (rdA K G Mr z) σ H Q := by
  obtain ⟨ft, F, env, st, r, st', I, ev, q⟩ := h
  unfold evE at ev
  obtain ⟨l, e1, e2⟩ := bi_ev ev
  exact ⟨ft, F, env, st, l, st', I, e1, fun vs H1 F1 s1 I1 r1 => ⟨ft, F1, l, r, I1.hi.hl, r1, e2, fun p H' F' gr hp np ow => q p H' F' (s1.trans gr.step) (I1.grow gr) (s1.bk0 hp) np ow⟩⟩
section
variable {nm : Str} {p : Pos} {id T : String} {f : List D → Option D}
theorem qe_bi (ho : OpC C (.builtin id) f) (hb : nm ∈ C.blts) (hv : bootBuiltins nm = some (.builtin id)) (ha : QA C N sc Mr (x :: es) z) (hg : sc.names.lookup nm = some .globalImplicit := by rfl)
    (hn : nm ≠ "__name__" := by decide) (hdb : (nm == ("__debug__" : Str)) = false := by decide) (he : ∀ env : PySem.Env, starEach (x :: es) env = (false, eval x env) :: starEach es env := by intro _; rfl) (hpl : ∀ env : PySem.Env, (backTo pos (starEach es env)).any (·.1) = false := by intro _; rfl) :
    QE C N sc (.Call (.Name nm p) (x :: es) [] pos) (.bi f z) := fun X G g n s => (pe_callB (ho X g) (gl_of s hg) (g.blt _ hb) hv (ha X G g n s) hn hdb (he _) (hpl _)).wk fun σ H Q h => rd_bi h
theorem qf_bi (ho : OpCF C (.builtin id) f) (hb : nm ∈ C.blts) (hv : bootBuiltins nm = some (.builtin id)) (ha : QA C N sc Mr (x :: es) z) (hg : sc.names.lookup nm = some .globalImplicit := by rfl)
    (hn : nm ≠ "__name__" := by decide) (hdb : (nm == ("__debug__" : Str)) = false := by decide) (he : ∀ env : PySem.Env, starEach (x :: es) env = (false, eval x env) :: starEach es env := by intro _; rfl) (hpl : ∀ env : PySem.Env, (backTo pos (starEach es env)).any (·.1) = false := by intro _; rfl) :
    QF C N sc (.Call (.Name nm p) (x :: es) [] pos) (.bi f z) := fun X G g n s => (pe_callB (ho X g) (gl_of s hg) (g.blt _ hb) hv (ha X G g n s) hn hdb (he _) (hpl _)).wk fun σ H Q h => rd_biF h
theorem qe_ty (ho : OpC C (.type T) f) (hb : nm ∈ C.blts) (hv : bootBuiltins nm = some (.type T)) (ha : QA C N sc Mr (x :: es) z) (hg : sc.names.lookup nm = some .globalImplicit := by rfl)
    (hn : nm ≠ "__name__" := by decide) (hdb : (nm == ("__debug__" : Str)) = false := by decide) (he : ∀ env : PySem.Env, starEach (x :: es) env = (false, eval x env) :: starEach es env := by intro _; rfl) (hpl : ∀ env : PySem.Env, (backTo pos (starEach es env)).any (·.1) = false := by intro _; rfl) :
    QE C N sc (.Call (.Name nm p) (x :: es) [] pos) (.bi f z) := fun X G g n s => (pe_callTy (ho X g) (gl_of s hg) (g.blt _ hb) hv (ha X G g n s) hn hdb (he _) (hpl _)).wk fun σ H Q h => rd_bi h
theorem qf_ty (ho : OpCF C (.type T) f) (hb : nm ∈ C.blts) (hv : bootBuiltins nm = some (.type T)) (ha : QA C N sc Mr (x :: es) z) (hg : sc.names.lookup nm = some .globalImplicit := by rfl)
    (hn : nm ≠ "__name__" := by decide) (hdb : (nm == ("__debug__" : Str)) = false := by decide) (he : ∀ env : PySem.Env, starEach (x :: es) env = (false, eval x env) :: starEach es env := by intro _; rfl) (hpl : ∀ env : PySem.Env, (backTo pos (starEach es env)).any (·.1) = false := by intro _; rfl) :
    QF C N sc (.Call (.Name nm p) (x :: es) [] pos) (.bi f z) := fun X G g n s => (pe_callTy (ho X g) (gl_of s hg) (g.blt _ hb) hv (ha X G g n s) hn hdb (he _) (hpl _)).wk fun σ H Q h => rd_biF h
def dGcd : List D → Option D
  | [.int a, .int b] => some (.int ((Nat.gcd a.natAbs b.natAbs : Nat) : Int))
  | _ => none
theorem RRs.two {K ft H F a b vs} (h : RRs K ft H F [a, b] vs) : ∃ x y, vs = [x, y] ∧ RR K ft H F a x ∧ RR K ft H F b y := by
  cases h with
  | cons h1 h2 =>
    cases h2 with
    | cons h3 h4 =>
      cases h4
      exact ⟨_, _, rfl, h1, h3⟩
theorem RRs.one {K ft H F a vs} (h : RRs K ft H F [a] vs) : ∃ x, vs = [x] ∧ RR K ft H F a x := by
  cases h with
  | cons h1 h2 =>
    cases h2
    exact ⟨_, rfl, h1⟩
theorem CallR.imp {X : Cx} {f : Value} {r r' : List V → Hp → VK → Prop} (h : CallR X f r) (i : ∀ xs H Q, r' xs H Q → r xs H Q) : CallR X f r' := fun pins s σ H xs us Q I rv q => h pins s σ H xs us Q I rv (i _ _ _ q)
theorem OpR.imp {X : Cx} {f : Value → Value → Sem Value} {r r' : R2} (h : OpR X f r) (i : ∀ x y H Q, r' x y H Q → r x y H Q) : OpR X f r' := fun pins s σ H x y v u Q I rx ry q => h pins s σ H x y v u Q I rx ry (i _ _ _ _ q)
theorem UnR.imp {X : Cx} {f : Value → Sem Value} {r r' : V → Hp → VK → Prop} (h : UnR X f r) (i : ∀ x H Q, r' x H Q → r x H Q) : UnR X f r' := fun pins s σ H x v Q I rx q => h pins s σ H x v Q I rx (i _ _ _ q)
theorem rep_int {K H F i} : Rep K H F (.int i) (.int i) := by unfold Rep; rfl
theorem Grow.rfl' {ft H F} (h : HL ft H F) : Grow H F H F := ⟨Same.refl H, fun _ h => h, fun _ h => .inl h, h.trk⟩
theorem oc_gcd : OpC C (.builtin "math.gcd") dGcd := fun X g => CallR.imp cr_gcd fun xs H Q ⟨ft, F, ts, r, hl, rr, e, q⟩ => by
  unfold dGcd at e
  split at e
  · obtain ⟨x, y, rfl, h1, h2⟩ := RRs.two rr
    cases e
    exact ⟨_, _, by rw [RR.int h1, RR.int h2], q _ H F (Grow.rfl' hl) rep_int⟩
  · cases e
theorem qe_gcd (hgc : C.gcd = true) (ha : QA C N sc Mr (x :: es) z) (hg : sc.names.lookup ("gcd" : Str) = some .globalImplicit := by rfl)
    (he : ∀ env : PySem.Env, starEach (x :: es) env = (false, eval x env) :: starEach es env := by intro _; rfl) (hpl : ∀ env : PySem.Env, (backTo pos (starEach es env)).any (·.1) = false := by intro _; rfl) :
    QE C N sc (.Call (.Name "gcd" p) (x :: es) [] pos) (.bi dGcd z) := fun X G g n s => (pe_callBfun (oc_gcd X g) (gl_of s hg) (g.gcd hgc) (ha X G g n s) (by decide) (he _) (hpl _)).wk fun σ H Q h => rd_bi h
end
end
end Z
namespace Z
open PySem PySem.Spec PyProof.Rows L2

/-! ### targets -/
def tgs : Tg → List Nat
  | .one i => [i]
  | .nil => []
  | .cons a r => tgs a ++ tgs r
structure Sim (is : List Nat) (σ σ' : L2.St) : Prop where
  len : σ'.length = σ.length
  out : ∀ i : Nat, i ∉ is → σ'[i]? = σ[i]?
theorem Sim.trans {is js : List Nat} {σ σ1 σ2 : L2.St} (a : Sim is σ σ1) (b : Sim js σ1 σ2) : Sim (is ++ js) σ σ2 :=
  ⟨b.len.trans a.len, fun i h => (b.out i fun z => h (List.mem_append_right _ z)).trans (a.out i fun z => h (List.mem_append_left _ z))⟩
section
variable {K : PySem.W.Frag} {G : Act} {ft : List Addr} {σ : L2.St} {H H' : Hp} {F F' : Fz} {env : Env} {st st' : SD}
theorem ZI.setSh (I : ZI K G ft σ H F env st) {i : Nat} {t : D} {v : V} (r : Rep K H F t v) : ZI K G ft (σ.set i (some v)) H F (env.set i (.sh t)) st where
  hi := I.hi
  len := by rw [List.length_set, List.length_set, I.len]
  slot := fun j s e => by
    by_cases h : i = j
    · subst h
      have hl : i < env.length := by
        have := (List.getElem?_eq_some_iff.mp e).1
        simpa using this
      rw [List.getElem?_set_self hl] at e
      cases e
      rw [List.getElem?_set_self (by rw [I.len]; exact hl)]
      exact ⟨v, rfl, r⟩
    · rw [List.getElem?_set_ne h] at e
      rw [List.getElem?_set_ne h]
      exact I.slot j s e
  dis := fun a b p ha hb => by
    have low : ∀ {c : Nat}, OwAt (env.set i (.sh t)) (σ.set i (some v)) c p → OwAt env σ c p := fun {c} ⟨⟨u, e1⟩, e2⟩ => by
      by_cases h : i = c
      · subst h
        have hl : i < env.length := by
          have := (List.getElem?_eq_some_iff.mp e1).1
          simpa using this
        rw [List.getElem?_set_self hl] at e1
        cases e1
      · rw [List.getElem?_set_ne h] at e1 e2
        exact ⟨⟨u, e1⟩, e2⟩
    exact I.dis a b p (low ha) (low hb)
  sto := I.sto
theorem ZI.setNo (I : ZI K G ft σ H F env st) {i : Nat} : ZI K G ft (σ.set i none) H F (env.set i .no) st where
  hi := I.hi
  len := by rw [List.length_set, List.length_set, I.len]
  slot := fun j s e => by
    by_cases h : i = j
    · subst h
      have hl : i < env.length := by
        have := (List.getElem?_eq_some_iff.mp e).1
        simpa using this
      rw [List.getElem?_set_self hl] at e
      cases e
      trivial
    · rw [List.getElem?_set_ne h] at e
      rw [List.getElem?_set_ne h]
      exact I.slot j s e
  dis := fun a b p ha hb => by
    have low : ∀ {c : Nat}, OwAt (env.set i .no) (σ.set i none) c p → OwAt env σ c p := fun {c} ⟨⟨u, e1⟩, e2⟩ => by
      by_cases h : i = c
      · subst h
        have hl : i < env.length := by
          have := (List.getElem?_eq_some_iff.mp e1).1
          simpa using this
        rw [List.getElem?_set_self hl] at e1
        cases e1
      · rw [List.getElem?_set_ne h] at e1 e2
        exact ⟨⟨u, e1⟩, e2⟩
    exact I.dis a b p (low ha) (low hb)
  sto := I.sto
theorem ZI.wipe (I : ZI K G ft σ H F env st) : ∀ own : List Nat, ZI K G ft (L2.wipe σ own) H F (wipeE env own) st
  | [] => I
  | v :: vs => (ZI.wipe I vs).setNo
end
section
variable (K : PySem.W.Frag) (G : Act)
def gT (tg : Tg) : TG := fun v σ H Q => ∃ ft F env st t env', ZI K G ft σ H F env st ∧ Rep K H F t v ∧ setT tg t env = some env' ∧ ∀ σ', ZI K G ft σ' H F env' st → Sim (tgs tg) σ σ' → Q σ' H
def gTs (tg : Tg) : TGs := fun vs σ H Q => ∃ ft F env st ts env', ZI K G ft σ H F env st ∧ RepL K H F ts vs ∧ setT tg (.tuple ts) env = some env' ∧ ∀ σ', ZI K G ft σ' H F env' st → Sim (tgs tg) σ σ' → Q σ' H
end
variable {C : Ct} {N : List Str} {sc : Scope} {fn : Str → Bool} {x y w : Expr} {z zx zy zw : ZE} {pos : Pos} {es : List Expr} {M : Md} {tg tr : Tg}
def QG (C : Ct) (N : List Str) (sc : Scope) (fn : Str → Bool) (e : Expr) (tg : Tg) : Prop := ∀ X G, Good C X → X.N = N → X.env.scope = sc → X.fn = fn → PG X e (gT X.K G tg)
def QGs (C : Ct) (N : List Str) (sc : Scope) (fn : Str → Bool) (es : List Expr) (tg : Tg) : Prop := ∀ X G, Good C X → X.N = N → X.env.scope = sc → X.fn = fn → PGs X es (gTs X.K G tg)
theorem _root_.L2.PG.wk {X : Cx} {e : Expr} {t t' : TG} (h : PG X e t) (w : ∀ v σ H Q, t' v σ H Q → t v σ H Q) : PG X e t' := ⟨fun pins s σ H v u Q I r q => h.run pins s σ H v u Q I r (w _ _ _ _ q)⟩
theorem _root_.L2.PGs.wk {X : Cx} {e : List Expr} {t t' : TGs} (h : PGs X e t) (w : ∀ v σ H Q, t' v σ H Q → t v σ H Q) : PGs X e t' := ⟨fun pins s σ H v u Q I r q => h.run pins s σ H v u Q I r (w _ _ _ _ q)⟩
theorem qg_name (i : Nat) {nm : Str} (hN : N[i]? = some nm := by rfl) (hx : Loc sc nm := by first | exact Or.inl rfl | exact Or.inr rfl) (hf : fn nm = true ∨ sc.names.lookup nm = some .local := by first | exact Or.inl rfl | exact Or.inr rfl) :
    QG C N sc fn (.Name nm pos) (.one i) := fun X G g n s f =>
  (pg_name (i := i) g.nd (by rw [n]; exact hN) (by rw [s]; exact hx) (by rw [s, f]; exact hf)).wk fun v σ H Q ⟨ft, F, env, st, t, env', I, r, e, q⟩ => by
    simp [setT] at e
    subst e
    refine q _ (I.setSh r) ⟨by simp, fun j h => ?_⟩
    rw [List.getElem?_set_ne]
    intro z
    exact h (by simp [tgs, z])
theorem qgs_nil : QGs C N sc fn [] .nil := fun X G g n s f => pgs_nil.wk fun vs σ H Q ⟨ft, F, env, st, ts, env', I, r, e, q⟩ => by
  cases ts with
  | nil =>
    simp [setT] at e
    subst e
    unfold RepL at r
    exact ⟨r, q σ I ⟨rfl, fun _ _ => rfl⟩⟩
  | cons a b => simp [setT] at e
theorem qgs_cons (h1 : QG C N sc fn x tg) (h2 : QGs C N sc fn es tr) (hs : ∀ env : PySem.Env, (assignEach (x :: es) env).map (·.2) = assign x env :: (assignEach es env).map (·.2) := by intro _; rfl) : QGs C N sc fn (x :: es) (.cons tg tr) := fun X G g n s f =>
  (pgs_cons (h1 X G g n s f) (h2 X G g n s f) (hs _)).wk fun vs σ H Q ⟨ft, F, env, st, ts, env', I, r, e, q⟩ => by
    cases ts with
    | nil => simp [setT] at e
    | cons a b =>
      unfold RepL at r
      obtain ⟨v, vs', rfl, r1, r2⟩ := r
      simp only [setT] at e
      cases e1 : setT tg a env with
      | none => rw [e1] at e; simp at e
      | some env1 =>
        rw [e1] at e
        exact ⟨v, vs', rfl, ft, F, env, st, a, env1, I, r1, e1, fun σ1 I1 s1 => ⟨ft, F, env1, st, b, env', I1, r2, e, fun σ2 I2 s2 => q σ2 I2 (s1.trans s2)⟩⟩
def tlen : Tg → Option Nat
  | .one _ => none
  | .nil => some 0
  | .cons _ r => (tlen r).map (· + 1)
theorem setT_tlen : ∀ {tg : Tg} {n : Nat} {ts : List D} {env env' : Env}, tlen tg = some n → setT tg (.tuple ts) env = some env' → ts.length = n
  | .one i, _, _, _, _, h, _ => by simp [tlen] at h
  | .nil, n, ts, env, env', h, e => by
    simp [tlen] at h
    cases ts <;> simp [setT] at e ⊢
    exact h
  | .cons a r, n, ts, env, env', h, e => by
    simp [tlen] at h
    obtain ⟨m, h1, h2⟩ := h
    cases ts with
    | nil => simp [setT] at e
    | cons t ts =>
      simp only [setT] at e
      cases e1 : setT a t env with
      | none => rw [e1] at e; simp at e
      | some env1 =>
        rw [e1] at e
        have := setT_tlen h1 e
        simp; omega
theorem setT_tup : ∀ {tg : Tg} {n : Nat} {d : D} {env env' : Env}, tlen tg = some n → setT tg d env = some env' → ∃ ts, d = .tuple ts
  | .one i, _, _, _, _, h, _ => by simp [tlen] at h
  | .nil, n, d, env, env', h, e => by
    cases d with
    | tuple ts => exact ⟨ts, rfl⟩
    | _ => simp [setT] at e
  | .cons a r, n, d, env, env', h, e => by
    cases d with
    | tuple ts => exact ⟨ts, rfl⟩
    | _ => simp [setT] at e
theorem qg_tup {k n : Nat} (h : QGs C N sc fn es tg) (hl : tlen tg = some n := by rfl) (hn : ∀ env : PySem.Env, (assignEach es env).length = n := by intro _; rfl) (hst : ∀ env : PySem.Env, (assignEach es env).findIdx? (·.1) = none := by intro _; rfl) : QG C N sc fn (.Tuple es k pos) tg := fun X G g n s f =>
  (pg_tup g.calm (h X G g n s f) (hn _) (hst _)).wk fun v σ H Q ⟨ft, F, env, st, t, env', I, r, e, q⟩ => by
    obtain ⟨ts, rfl⟩ := setT_tup hl e
    unfold Rep at r
    obtain ⟨a, xs, rfl, h1, h2⟩ := r
    exact ⟨a, xs, rfl, h1.sq, by rw [h2.length, setT_tlen hl e], ft, F, env, st, ts, env', I, h2, e, q⟩

/-! ### what is walked -/
structure ItOk (K : PySem.W.Frag) (S : Fz) (J : It) (ts : List D) (H : Hp) (F : Fz) : Prop where
  go : ∀ H1 F1, Keeps S H H1 → Keeps F H H1 → (∀ a, F a → F1 a) → (∀ a, F1 a → H1 a ≠ none) → ∀ (i : Nat) t, ts[i]? = some t → J.go i H1 ∧ ∀ x H2, J.yld i H1 x H2 → ∃ F2, Grow H1 F1 H2 F2 ∧ Rep K H2 F2 t x
  stop : ∀ H1, Keeps S H H1 → ∀ i, ts.length ≤ i → J.stop i H1
def rdI (K : PySem.W.Frag) (G : Act) (M : Md) (z : ZE) : TI := fun σ H R => ∃ ft F env st ts st', ZI K G ft σ H F env st ∧ evE z env st = some (.list ts, st') ∧ ∀ J H' F', Step ft H F H' F' → ZI K G ft σ H' F' env st' → ItOk K (M G ft F') J ts H' F' → R J H'
def QI (C : Ct) (N : List Str) (sc : Scope) (M : Md) (tg : Expr) (e : Expr) (z : ZE) : Prop := ∀ X G, Good C X → X.N = N → X.env.scope = sc → PI X tg e (rdI X.K G M z)
theorem _root_.L2.PI.wk {X : Cx} {tg e : Expr} {t t' : TI} (h : PI X tg e t) (w : ∀ σ H Q, t' σ H Q → t σ H Q) : PI X tg e t' := ⟨fun pins s σ H R I q => h.run pins s σ H R I (w _ _ _ q)⟩
theorem it_list {K S H F a xs ts} (h : LsF K H S a xs) (r : RepL K H F ts xs) : ItOk K S (Itl K a) ts H F where
  go := fun H1 F1 kS kF g tr i t e => by
    have h1 := (LsF.keep kS (fun _ h => h) h).sq
    have r1 := RepL.keep kF g ts r
    obtain ⟨x, ex, rx⟩ := r1.get e
    refine ⟨⟨xs, x, h1, ex⟩, fun y H2 ⟨e2, hy⟩ => ?_⟩
    subst e2
    have := hy xs h1
    rw [ex] at this
    cases this
    exact ⟨F1, ⟨Same.refl _, fun _ h => h, fun _ h => .inl h, tr⟩, rx⟩
  stop := fun H1 kS i hi => ⟨xs, (LsF.keep kS (fun _ h => h) h).sq, by rw [r.length]; exact hi⟩
theorem it_tup {K S H F a xs ts} (h : TpF K H S a xs) (r : RepL K H F ts xs) : ItOk K S (Itt K a) ts H F where
  go := fun H1 F1 kS kF g tr i t e => by
    have h1 := (TpF.keep kS (fun _ h => h) h).sq
    have r1 := RepL.keep kF g ts r
    obtain ⟨x, ex, rx⟩ := r1.get e
    refine ⟨⟨xs, x, h1, ex⟩, fun y H2 ⟨e2, hy⟩ => ?_⟩
    subst e2
    have := hy xs h1
    rw [ex] at this
    cases this
    exact ⟨F1, ⟨Same.refl _, fun _ h => h, fun _ h => .inl h, tr⟩, rx⟩
  stop := fun H1 kS i hi => ⟨xs, (TpF.keep kS (fun _ h => h) h).sq, by rw [r.length]; exact hi⟩
/-- for .. in a list -/
def dLs : D → Option D
  | .list ts => some (.list ts)
  | _ => none
def dTL : D → Option D
  | .tuple ts => some (.list ts)
  | _ => none
theorem qi_list {tgx : Expr} (h : QP C N sc M x z) : QI C N sc M tgx x (.op1 dLs z) := fun X G g n s => (pi_list (h X G g n s)).wk fun σ H R ⟨ft, F, env, st, ts, st', I, ev, q⟩ => by
  obtain ⟨a, e1, e2⟩ := un_ev ev
  cases a <;> simp [dLs] at e2
  subst e2
  refine ⟨ft, F, env, st, _, st', I, e1, fun v H' F' s' I' rr => ?_⟩
  obtain ⟨a, xs, rfl, h1, h2⟩ := rr
  exact ⟨a, rfl, ⟨xs, h1.sq⟩, q _ H' F' s' I' (it_list h1 h2)⟩
theorem qi_tup {tgx : Expr} (ok : MdOk M) (h : QP C N sc M x z) : QI C N sc M tgx x (.op1 dTL z) := fun X G g n s => (pi_tup (h X G g n s)).wk fun σ H R ⟨ft, F, env, st, ts, st', I, ev, q⟩ => by
  obtain ⟨a, e1, e2⟩ := un_ev ev
  cases a <;> simp [dTL] at e2
  subst e2
  refine ⟨ft, F, env, st, _, st', I, e1, fun v H' F' s' I' rr => ?_⟩
  have rr' : Rep X.K H' F' (.tuple _) v := rr
  unfold Rep at rr'
  obtain ⟨a, xs, rfl, h1, h2⟩ := rr'
  exact ⟨a, rfl, ⟨xs, h1.sq⟩, q _ H' F' s' I' (it_tup (h1.keep (fun _ _ _ e => e) fun a f => ok.sh I'.hi.nft f) h2)⟩
def rngD (lo : Int) (n : Nat) : List D := (List.range n).map fun k => PyData.int (lo + (k : Nat))
def rngC (lo : Int) (n : Nat) (c : Int) : List D := (List.range n).map fun k => PyData.int (lo + (k : Nat) * c)
def dRng1 : List D → Option D
  | [.int j] => if -(2 ^ 62) ≤ j ∧ j < 2 ^ 62 then some (.list (rngD 0 j.toNat)) else none
  | _ => none
def dRng2 : List D → Option D
  | [.int i, .int j] => if -(2 ^ 62) ≤ i ∧ i < 2 ^ 62 ∧ -(2 ^ 62) ≤ j ∧ j < 2 ^ 62 then some (.list (rngD i (j - i).toNat)) else none
  | _ => none
def rgOk (i j c : Int) : Bool := decide (c ≠ 0 ∧ c.natAbs < 1073741824) && Builtin.Range.small i j c && decide (0 ≤ Builtin.Range.rangeSize i j c)
def dRng3 : List D → Option D
  | [.int i, .int j, .int c] => if rgOk i j c = true then some (.list (rngC i (Builtin.Range.rangeSize i j c).toNat c)) else none
  | _ => none
theorem it_rng {K S H F} (lo : Int) (n : Nat) : ItOk K S (Itr lo n) (rngD lo n) H F where
  go := fun H1 F1 kS kF g tr i t e => by
    unfold rngD at e
    rw [List.getElem?_map] at e
    have hi : i < n := by
      cases q : (List.range n)[i]? with
      | none => rw [q] at e; simp at e
      | some k => simpa using (List.getElem?_eq_some_iff.mp q).1
    rw [List.getElem?_range hi] at e
    cases e
    refine ⟨hi, fun y H2 ⟨e2, hy⟩ => ?_⟩
    subst e2
    exact ⟨F1, ⟨Same.refl _, fun _ h => h, fun _ h => .inl h, tr⟩, by rw [hy]; exact rep_int⟩
  stop := fun H1 kS i hi => by
    show n ≤ i
    simpa [rngD] using hi
theorem it_rngc {K S H F} (lo c : Int) (n : Nat) : ItOk K S (Itc lo c n) (rngC lo n c) H F where
  go := fun H1 F1 kS kF g tr i t e => by
    unfold rngC at e
    rw [List.getElem?_map] at e
    have hi : i < n := by
      cases q : (List.range n)[i]? with
      | none => rw [q] at e; simp at e
      | some k => simpa using (List.getElem?_eq_some_iff.mp q).1
    rw [List.getElem?_range hi] at e
    cases e
    refine ⟨hi, fun y H2 ⟨e2, hy⟩ => ?_⟩
    subst e2
    exact ⟨F1, ⟨Same.refl _, fun _ h => h, fun _ h => .inl h, tr⟩, by rw [hy]; exact rep_int⟩
  stop := fun H1 kS i hi => by
    show n ≤ i
    simpa [rngC] using hi
theorem RRs.one' {K φ H F a vs} (h : Paired (RRepP K φ H F) [a] vs) : ∃ x, vs = [x] ∧ RRepP K φ H F a x := by
  cases h with
  | cons h1 h2 =>
    cases h2
    exact ⟨_, rfl, h1⟩
theorem RRs.two' {K φ H F a b vs} (h : Paired (RRepP K φ H F) [a, b] vs) : ∃ x y, vs = [x, y] ∧ RRepP K φ H F a x ∧ RRepP K φ H F b y := by
  cases h with
  | cons h1 h2 =>
    cases h2 with
    | cons h3 h4 =>
      cases h4
      exact ⟨_, _, rfl, h1, h3⟩
theorem RRs.three' {K φ H F a b c vs} (h : Paired (RRepP K φ H F) [a, b, c] vs) : ∃ x y z, vs = [x, y, z] ∧ RRepP K φ H F a x ∧ RRepP K φ H F b y ∧ RRepP K φ H F c z := by
  cases h with
  | cons h1 h2 =>
    cases h2 with
    | cons h3 h4 =>
      cases h4 with
      | cons h5 h6 =>
        cases h6
        exact ⟨_, _, _, rfl, h1, h3, h5⟩
theorem RRepP.int {K φ H F i v} (h : RRepP K φ H F (.int i) v) : v = .int i := by
  have h' : Rep K H F (.int i) v := h
  unfold Rep at h'
  exact h'
theorem qi_range1 {tgx : Expr} {p : Pos} (hb : ("range" : Str) ∈ C.blts) (ha : QA C N sc Mr [x] z) (hg : sc.names.lookup ("range" : Str) = some .globalImplicit := by rfl) (hs : ∀ env : PySem.Env, starEach [x] env = [(false, eval x env)] := by intro _; rfl) :
    QI C N sc M tgx (.Call (.Name "range" p) [x] [] pos) (.bi dRng1 z) := fun X G g n s => (pi_range1 (gl_of s hg) (g.blt _ hb) (ha X G g n s) (hs _)).wk fun σ H R ⟨ft, F, env, st, ts, st', I, ev, q⟩ => by
  unfold evE at ev
  obtain ⟨l, e1, e2⟩ := bi_ev ev
  refine ⟨ft, F, env, st, l, st', I, e1, fun vs H' F' s' I' rr => ?_⟩
  unfold dRng1 at e2
  split at e2
  · split at e2
    · rename_i j hj
      cases e2
      obtain ⟨x, rfl, h1⟩ := RRs.one' rr
      exact ⟨j, by rw [RRepP.int h1], hj.1, hj.2, q _ H' F' s' I' (it_rng _ _)⟩
    · cases e2
  · cases e2
theorem qi_range2 {tgx : Expr} {p : Pos} (hb : ("range" : Str) ∈ C.blts) (ha : QA C N sc Mr [x, y] z) (hg : sc.names.lookup ("range" : Str) = some .globalImplicit := by rfl) (hs : ∀ env : PySem.Env, starEach [x, y] env = [(false, eval x env), (false, eval y env)] := by intro _; rfl)
    (hs2 : ∀ env : PySem.Env, starEach [y] env = [(false, eval y env)] := by intro _; rfl) :
    QI C N sc M tgx (.Call (.Name "range" p) [x, y] [] pos) (.bi dRng2 z) := fun X G g n s => (pi_range2 (gl_of s hg) (g.blt _ hb) (ha X G g n s) (hs _) (hs2 _)).wk fun σ H R ⟨ft, F, env, st, ts, st', I, ev, q⟩ => by
  unfold evE at ev
  obtain ⟨l, e1, e2⟩ := bi_ev ev
  refine ⟨ft, F, env, st, l, st', I, e1, fun vs H' F' s' I' rr => ?_⟩
  unfold dRng2 at e2
  split at e2
  · split at e2
    · rename_i i j hj
      cases e2
      obtain ⟨x, y, rfl, h1, h2⟩ := RRs.two' rr
      exact ⟨i, j, by rw [RRepP.int h1, RRepP.int h2], hj, q _ H' F' s' I' (it_rng _ _)⟩
    · cases e2
  · cases e2
theorem qi_range3 {tgx : Expr} {p : Pos} (hb : ("range" : Str) ∈ C.blts) (ha : QA C N sc Mr [x, y, w] z) (hg : sc.names.lookup ("range" : Str) = some .globalImplicit := by rfl)
    (hs : ∀ env : PySem.Env, starEach [x, y, w] env = (false, eval x env) :: starEach [y, w] env := by intro _; rfl) (hpl : ∀ env : PySem.Env, (backTo pos (starEach [y, w] env)).any (·.1) = false := by intro _; rfl) :
    QI C N sc M tgx (.Call (.Name "range" p) [x, y, w] [] pos) (.bi dRng3 z) := fun X G g n s => (pi_range3 (gl_of s hg) (g.blt _ hb) (ha X G g n s) (hs _) (hpl _)).wk fun σ H R ⟨ft, F, env, st, ts, st', I, ev, q⟩ => by
  unfold evE at ev
  obtain ⟨l, e1, e2⟩ := bi_ev ev
  refine ⟨ft, F, env, st, l, st', I, e1, fun vs H' F' s' I' rr => ?_⟩
  unfold dRng3 at e2
  split at e2
  · split at e2
    · rename_i i j c hj
      cases e2
      obtain ⟨x, y, z, rfl, h1, h2, h3⟩ := RRs.three' rr
      unfold rgOk at hj
      simp only [Bool.and_eq_true, decide_eq_true_eq] at hj
      exact ⟨i, j, c, _, by rw [RRepP.int h1, RRepP.int h2, RRepP.int h3], ⟨hj.1.1.1, hj.1.1.2, hj.1.2, by omega⟩, q _ H' F' s' I' (it_rngc _ _ _)⟩
    · cases e2
  · cases e2

/-! ### enumerate, zip, reversed -/
def enD (k : Nat) : List D → List D
  | [] => []
  | t :: ts => .tuple [.int (k : Nat), t] :: enD (k + 1) ts
def dEnum : List D → Option D
  | [.list ts] => some (.list (enD 0 ts))
  | _ => none
def zpD : List D → List D → List D
  | t :: ts, u :: us => .tuple [t, u] :: zpD ts us
  | _, _ => []
def dZip : List D → Option D
  | [.list ts, .list us] => some (.list (zpD ts us))
  | [.tuple ts, .tuple us] => some (.list (zpD ts us))
  | _ => none
theorem enD_get : ∀ {ts : List D} {k i : Nat} {t : D}, (enD k ts)[i]? = some t → ∃ u, ts[i]? = some u ∧ t = .tuple [.int ((k + i : Nat) : Nat), u]
  | [], _, _, _, e => by simp [enD] at e
  | t :: ts, k, 0, u, e => by simp [enD] at e; exact ⟨t, rfl, by rw [← e]; simp⟩
  | t :: ts, k, i + 1, u, e => by
    simp [enD] at e
    obtain ⟨v, e1, e2⟩ := enD_get e
    exact ⟨v, by simpa using e1, by rw [e2]; congr 3; simp; omega⟩
theorem enD_len : ∀ {ts : List D} {k : Nat}, (enD k ts).length = ts.length
  | [], _ => rfl
  | t :: ts, k => by simp [enD, enD_len]
theorem zpD_get : ∀ {ts us : List D} {i : Nat} {t : D}, (zpD ts us)[i]? = some t → ∃ a b, ts[i]? = some a ∧ us[i]? = some b ∧ t = .tuple [a, b]
  | [], us, _, _, e => by simp [zpD] at e
  | _ :: _, [], _, _, e => by simp [zpD] at e
  | t :: ts, u :: us, 0, v, e => by simp [zpD] at e; exact ⟨t, u, rfl, rfl, e.symm⟩
  | t :: ts, u :: us, i + 1, v, e => by
    simp [zpD] at e
    obtain ⟨a, b, e1, e2, e3⟩ := zpD_get e
    exact ⟨a, b, by simpa using e1, by simpa using e2, e3⟩
theorem zpD_len : ∀ {ts us : List D} {i : Nat}, (zpD ts us).length ≤ i → ts.length ≤ i ∨ us.length ≤ i
  | [], us, _, _ => .inl (Nat.zero_le _)
  | _ :: _, [], _, _ => .inr (Nat.zero_le _)
  | t :: ts, u :: us, 0, h => by simp [zpD] at h
  | t :: ts, u :: us, i + 1, h => by
    simp only [zpD, List.length_cons, Nat.add_le_add_iff_right] at h
    rcases zpD_len h with q | q
    · exact .inl (by simpa using q)
    · exact .inr (by simpa using q)
/-- a pair that comes new -/
theorem pair_new {K H1 F1 T} {t u : D} {x y : V} (tr : ∀ a, F1 a → H1 a ≠ none) (hT : H1 T = none) (r1 : Rep K H1 F1 t x) (r2 : Rep K H1 F1 u y) :
    Grow H1 F1 (upd H1 T (.tup [x, y])) (fun a => F1 a ∨ a = T) ∧ Rep K (upd H1 T (.tup [x, y])) (fun a => F1 a ∨ a = T) (.tuple [t, u]) (.ref T) := by
  have gr : Grow H1 F1 (upd H1 T (.tup [x, y])) (fun a => F1 a ∨ a = T) := {
    same := fun b o e => by rw [upd_ne (ne_of_none e hT)]; exact e
    old := fun _ h => .inl h
    new := fun a h => h.elim .inl fun e => .inr (by rw [e]; exact hT)
    trk := fun a f => by
      unfold upd
      split
      · simp
      · rename_i n
        exact tr a (f.resolve_right n) }
  refine ⟨gr, ?_⟩
  unfold Rep
  have kp : ∀ {t v}, Rep K H1 F1 t v → Rep K (upd H1 T (.tup [x, y])) (fun a => F1 a ∨ a = T) t v := fun r => Rep.keep (fun a o _ e => gr.same a o e) (fun _ h => .inl h) _ r
  exact ⟨T, [x, y], rfl, .inl ⟨.inr rfl, .inl upd_same⟩, .cons (kp r1) (.cons (kp r2) .nil)⟩
theorem it_enum {K S H F a xs ts} (h : LsF K H S a xs) (r : RepL K H F ts xs) : ItOk K S (Ite K a) (enD 0 ts) H F where
  go := fun H1 F1 kS kF g tr i t e => by
    have h1 := (LsF.keep kS (fun _ h => h) h).sq
    have r1 := RepL.keep kF g ts r
    obtain ⟨u, eu, rfl⟩ := enD_get e
    obtain ⟨x, ex, rx⟩ := r1.get eu
    refine ⟨⟨xs, x, h1, ex⟩, fun y H2 ⟨T, x', e1, hT, e2, hy⟩ => ?_⟩
    subst e1; subst e2
    have := hy xs h1
    rw [ex] at this
    cases this
    obtain ⟨gr, rp⟩ := pair_new tr hT (t := .int ((0 + i : Nat) : Nat)) (x := .int (i : Nat)) (by unfold Rep; simp) rx
    exact ⟨_, gr, rp⟩
  stop := fun H1 kS i hi => ⟨xs, (LsF.keep kS (fun _ h => h) h).sq, by rw [r.length]; rw [enD_len] at hi; exact hi⟩
theorem it_zip {K S H F a b xs ys ts us} (h : LsF K H S a xs) (h' : LsF K H S b ys) (r : RepL K H F ts xs) (r' : RepL K H F us ys) : ItOk K S (Itz K a b) (zpD ts us) H F where
  go := fun H1 F1 kS kF g tr i t e => by
    have h1 := (LsF.keep kS (fun _ h => h) h).sq
    have h2 := (LsF.keep kS (fun _ h => h) h').sq
    have r1 := RepL.keep kF g ts r
    have r2 := RepL.keep kF g us r'
    obtain ⟨u, v, eu, ev, rfl⟩ := zpD_get e
    obtain ⟨x, ex, rx⟩ := r1.get eu
    obtain ⟨y, ey, ry⟩ := r2.get ev
    refine ⟨⟨xs, ys, x, y, h1, h2, ex, ey⟩, fun z H2 ⟨T, x', y', e1, hT, e2, hy, hy'⟩ => ?_⟩
    subst e1; subst e2
    have := hy xs h1
    rw [ex] at this
    cases this
    have := hy' ys h2
    rw [ey] at this
    cases this
    obtain ⟨gr, rp⟩ := pair_new tr hT rx ry
    exact ⟨_, gr, rp⟩
  stop := fun H1 kS i hi => ⟨xs, ys, (LsF.keep kS (fun _ h => h) h).sq, (LsF.keep kS (fun _ h => h) h').sq, by rw [r.length, r'.length]; exact zpD_len hi⟩
theorem it_zipT {K S H F a b xs ys ts us} (h : TpF K H S a xs) (h' : TpF K H S b ys) (r : RepL K H F ts xs) (r' : RepL K H F us ys) : ItOk K S (RZ.ItzT K a b) (zpD ts us) H F where
  go := fun H1 F1 kS kF g tr i t e => by
    have h1 := (TpF.keep kS (fun _ h => h) h).sq
    have h2 := (TpF.keep kS (fun _ h => h) h').sq
    have r1 := RepL.keep kF g ts r
    have r2 := RepL.keep kF g us r'
    obtain ⟨u, v, eu, ev, rfl⟩ := zpD_get e
    obtain ⟨x, ex, rx⟩ := r1.get eu
    obtain ⟨y, ey, ry⟩ := r2.get ev
    refine ⟨⟨xs, ys, x, y, h1, h2, ex, ey⟩, fun z H2 ⟨T, x', y', e1, hT, e2, hy, hy'⟩ => ?_⟩
    subst e1; subst e2
    have := hy xs h1
    rw [ex] at this
    cases this
    have := hy' ys h2
    rw [ey] at this
    cases this
    obtain ⟨gr, rp⟩ := pair_new tr hT rx ry
    exact ⟨_, gr, rp⟩
  stop := fun H1 kS i hi => ⟨xs, ys, (TpF.keep kS (fun _ h => h) h).sq, (TpF.keep kS (fun _ h => h) h').sq, by rw [r.length, r'.length]; exact zpD_len hi⟩
theorem qi_enum {elts : List Expr} {kk : Nat} {p tpos : Pos} (hb : ("enumerate" : Str) ∈ C.blts) (ha : QA C N sc M [x] z) (hg : sc.names.lookup ("enumerate" : Str) = some .globalImplicit := by rfl) (hs : ∀ env : PySem.Env, starEach [x] env = [(false, eval x env)] := by intro _; rfl) :
    QI C N sc M (.Tuple elts kk tpos) (.Call (.Name "enumerate" p) [x] [] pos) (.bi dEnum z) := fun X G g n s => (pi_enum (gl_of s hg) (g.blt _ hb) (ha X G g n s) (hs _)).wk fun σ H R ⟨ft, F, env, st, ts, st', I, ev, q⟩ => by
  unfold evE at ev
  obtain ⟨l, e1, e2⟩ := bi_ev ev
  refine ⟨ft, F, env, st, l, st', I, e1, fun vs H' F' s' I' rr => ?_⟩
  unfold dEnum at e2
  split at e2
  · cases e2
    obtain ⟨x, rfl, h1⟩ := RRs.one' rr
    obtain ⟨a, xs, rfl, h2, h3⟩ := h1
    exact ⟨a, xs, rfl, h2.sq, q _ H' F' s' I' (it_enum h2 h3)⟩
  · cases e2
theorem qi_zip {elts : List Expr} {kk : Nat} {p tpos : Pos} (ok : MdOk M) (hb : ("zip" : Str) ∈ C.blts) (ha : QA C N sc M [x, y] z) (hg : sc.names.lookup ("zip" : Str) = some .globalImplicit := by rfl)
    (hs : ∀ env : PySem.Env, starEach [x, y] env = (false, eval x env) :: starEach [y] env := by intro _; rfl) (hpl : ∀ env : PySem.Env, (backTo pos (starEach [y] env)).any (·.1) = false := by intro _; rfl) :
    QI C N sc M (.Tuple elts kk tpos) (.Call (.Name "zip" p) [x, y] [] pos) (.bi dZip z) := fun X G g n s => (RZ.pi_zipA (gl_of s hg) (g.blt _ hb) (ha X G g n s) (hs _) (hpl _)).wk fun σ H R ⟨ft, F, env, st, ts, st', I, ev, q⟩ => by
  unfold evE at ev
  obtain ⟨l, e1, e2⟩ := bi_ev ev
  refine ⟨ft, F, env, st, l, st', I, e1, fun vs H' F' s' I' rr => ?_⟩
  unfold dZip at e2
  split at e2
  · cases e2
    obtain ⟨x, y, rfl, ⟨a, xs, rfl, h2, h3⟩, ⟨b, ys, rfl, h4, h5⟩⟩ := RRs.two' rr
    exact ⟨a, b, xs, ys, rfl, .inl ⟨h2.sq, h4.sq, q _ H' F' s' I' (it_zip h2 h4 h3 h5)⟩⟩
  · cases e2
    obtain ⟨x, y, rfl, h1, h2⟩ := RRs.two' rr
    have h1 : Rep X.K H' F' (.tuple _) x := h1
    have h2 : Rep X.K H' F' (.tuple _) y := h2
    unfold Rep at h1 h2
    obtain ⟨b, ys, rfl, h4, h5⟩ := h2
    obtain ⟨a, xs, rfl, h2, h3⟩ := h1
    have up : ∀ {a xs}, TpF X.K H' F' a xs → TpF X.K H' (M G ft F') a xs := fun h => h.keep (fun _ _ _ e => e) fun a f => ok.sh I'.hi.nft f
    exact ⟨a, b, xs, ys, rfl, .inr ⟨h2.sq, h4.sq, q _ H' F' s' I' (it_zipT (up h2) (up h4) h3 h5)⟩⟩
  · cases e2
def dRev : D → Option D
  | .list ts => some (.list ts.reverse)
  | _ => none
theorem it_rev {K S H F a xs ts} (h : LsF K H S a xs) (r : RepL K H F ts xs) : ItOk K S (Itv K a xs.length) ts.reverse H F where
  go := fun H1 F1 kS kF g tr i t e => by
    have h1 := (LsF.keep kS (fun _ h => h) h).sq
    have r1 := RepL.keep kF g ts r
    have hi : i < ts.length := by
      have := (List.getElem?_eq_some_iff.mp e).1
      simpa using this
    rw [List.getElem?_reverse hi] at e
    obtain ⟨x, ex, rx⟩ := r1.get e
    rw [← r.length] at ex
    refine ⟨⟨by rw [r.length]; exact hi, xs, x, h1, ex⟩, fun y H2 ⟨e2, hy⟩ => ?_⟩
    subst e2
    have := hy xs h1
    rw [ex] at this
    cases this
    exact ⟨F1, ⟨Same.refl _, fun _ h => h, fun _ h => .inl h, tr⟩, rx⟩
  stop := fun H1 kS i hi => by
    show xs.length ≤ i
    rw [r.length]
    simpa using hi
theorem qi_rev {tgx : Expr} {p : Pos} (hb : ("reversed" : Str) ∈ C.blts) (h : QP C N sc M x z) (hg : sc.names.lookup ("reversed" : Str) = some .globalImplicit := by rfl) (hs : ∀ env : PySem.Env, starEach [x] env = (false, eval x env) :: starEach [] env := by intro _; rfl) :
    QI C N sc M tgx (.Call (.Name "reversed" p) [x] [] pos) (.op1 dRev z) := fun X G g n s => (RT.pi_revA (gl_of s hg) (g.blt _ hb) (h X G g n s) (hs _)).wk fun σ H R ⟨ft, F, env, st, ts, st', I, ev, q⟩ => by
  obtain ⟨a, e1, e2⟩ := un_ev ev
  cases a <;> simp [dRev] at e2
  subst e2
  refine ⟨ft, F, env, st, _, st', I, e1, fun v H' F' s' I' rr => ?_⟩
  obtain ⟨a, xs, rfl, h1, h2⟩ := rr
  exact ⟨a, xs, rfl, .inl ⟨h1.sq, q _ H' F' s' I' (it_rev h1 h2)⟩⟩
end Z
namespace Z
open PySem PySem.Spec PyProof.Rows L2
section
variable {K : PySem.W.Frag} {G : Act} {ft : List Addr} {σ : L2.St} {H H' H1 H2 : Hp} {F F' F1 F2 : Fz} {env : Env} {st st' : SD}
theorem Step.nf (s : Step ft H F H' F') {p : Addr} (h : H p ≠ none) (n : ¬ F p) : ¬ F' p := fun f => (s.new p f).elim n h
theorem HI.write (h : HI G ft H F) {p : Addr} {o : HO} (hp : H p ≠ none) (nf : ¬ F p) (h0 : G.H0 p = none) (hf : p ∉ ft) : HI G ft (upd H p o) F where
  trk := fun a f => by
    unfold upd
    split
    · simp
    · exact h.trk a f
  nft := h.nft
  keep := fun a o' e n => by
    rw [upd_ne (ne_of_none e h0)]
    exact h.keep a o' e n
  there := fun a n => by
    unfold upd
    split
    · simp
    · exact h.there a n
  old := h.old
  new := h.new
  ftk := fun a z => by
    unfold upd
    split
    · simp
    · exact h.ftk a z
  pf := h.pf
  fn := h.fn
theorem StOk.write {p : Addr} {o : HO} (h : StOk H ft st) (hf : p ∉ ft) : StOk (upd H p o) ft st := by
  cases st with
  | none => exact h
  | some t =>
    obtain ⟨v, r⟩ := h
    exact ⟨v, r.keep fun a o' m e => by rw [upd_ne (fun z => hf (by rw [← z]; exact m))]; exact e⟩
/-- what came new is written -/
theorem Step.write (s : Step ft H F H' F') {p : Addr} {o : HO} (hp : H p = none) : Step ft H F (upd H' p o) F' where
  keep := fun a o' e n => by
    rw [upd_ne (ne_of_none e hp)]
    exact s.keep a o' e n
  there := fun a n => by
    unfold upd
    split
    · simp
    · exact s.there a n
  old := s.old
  new := s.new
theorem keepW {p : Addr} {o : HO} (nf : ¬ F p) : Keeps F H (upd H p o) := fun a o' f e => by
  rw [upd_ne (fun z => nf (by rw [← z]; exact f))]
  exact e
end

variable {C : Ct} {N : List Str} {sc : Scope} {fn : Str → Bool} {x y w : Expr} {z zx zy zw zc ze : ZE} {pos : Pos} {es : List Expr} {M : Md} {tg tr : Tg}
def QTs (C : Ct) (N : List Str) (sc : Scope) (es : List Expr) (z : ZE) : Prop := ∀ X G, Good C X → X.N = N → X.env.scope = sc → PTs X es (rdT X.K G z)
theorem _root_.L2.PTs.wk {X : Cx} {es : List Expr} {t t' : TT} (h : PTs X es t) (w : ∀ σ H Q, t' σ H Q → t σ H Q) : PTs X es t' := ⟨fun pins s σ H Q I q => h.run pins s σ H Q I (w σ H Q q)⟩
theorem qts_nil : QTs C N sc [] (.cst (.bool true)) := fun X G g n s => PTs.wk pts_nil fun σ H Q ⟨ft, F, env, st, b, st', I, ev, q⟩ => by
  unfold evE at ev
  cases ev
  exact q H F .refl I
theorem qts_one (h : QT C N sc x z) : QTs C N sc [x] z := fun X G g n s => pts_one (h X G g n s)

def fnC (scope : Scope) : Str → Bool := fun x => scope.names.lookup x == some .cell
theorem good_blk {X : Cx} (g : Good C X) {s H scope cl Ca fp} : Good C (X.blk s H scope (compEnvC scope cl Ca X.env) fp) :=
  ⟨g.calm, g.nd, rfl, g.room, fun e h => g.tab e h, g.blt, g.gcd⟩

theorem evC_cons {env : Env} {tg : Tg} {c e : Ev} {t : D} {ts : List D} {st st' : SD} {rs : List D} (h : evC env tg c e (t :: ts) st = some (rs, st')) :
    ∃ env' b st1, setT tg t env = some env' ∧ c env' st = some (.bool b, st1) ∧ if b = true then ∃ y st2 rs', e env' st1 = some (y, st2) ∧ evC env tg c e ts st2 = some (rs', st') ∧ rs = y :: rs' else evC env tg c e ts st1 = some (rs, st') := by
  unfold evC at h
  cases e1 : setT tg t env with
  | none => rw [e1] at h; simp at h
  | some env' =>
    rw [e1] at h
    simp only [Option.bind_some] at h
    cases e2 : c env' st with
    | none => rw [e2] at h; simp at h
    | some b =>
      obtain ⟨b, st1⟩ := b
      rw [e2] at h
      cases b <;> simp [evBool] at h
      rename_i b
      refine ⟨env', b, st1, rfl, e2, ?_⟩
      cases b with
      | false => simpa using h
      | true =>
        simp only [if_true] at h ⊢
        cases e3 : e env' st1 with
        | none => rw [e3] at h; simp at h
        | some y =>
          obtain ⟨y, st2⟩ := y
          rw [e3] at h
          simp only [Option.bind_some] at h
          cases e4 : evC env tg c e ts st2 with
          | none => rw [e4] at h; simp at h
          | some r =>
            obtain ⟨r, st3⟩ := r
            rw [e4] at h
            simp at h
            obtain ⟨rfl, rfl⟩ := h
            exact ⟨y, st2, r, rfl, e4, rfl⟩
theorem wipe_get (σ : L2.St) : ∀ (vs : List Nat) (i : Nat), (L2.wipe σ vs)[i]? = if i ∈ vs ∧ i < σ.length then some none else σ[i]?
  | [], i => by simp [L2.wipe]
  | v :: vs, i => by
    unfold L2.wipe
    by_cases h : v = i
    · subst h
      by_cases hl : v < σ.length
      · rw [List.getElem?_set_self (by rw [L2.wipe_length]; exact hl)]
        simp [hl]
      · rw [List.getElem?_eq_none (by rw [List.length_set, L2.wipe_length]; omega)]
        simp [hl]
    · rw [List.getElem?_set_ne h, wipe_get σ vs i]
      have : i ≠ v := fun e => h e.symm
      simp [this]
theorem wipe_sim {is vs : List Nat} {σ σ' : L2.St} (h : Sim is (L2.wipe σ vs) σ') (hs : ∀ i ∈ is, i ∈ vs) : L2.wipe σ' vs = L2.wipe σ vs := by
  apply List.ext_getElem?
  intro i
  rw [wipe_get, wipe_get]
  have hl : σ'.length = σ.length := by rw [h.len, L2.wipe_length]
  rw [hl]
  by_cases hi : i ∈ vs ∧ i < σ.length
  · rw [if_pos hi, if_pos hi]
  · rw [if_neg hi, if_neg hi]
    by_cases hv : i ∈ vs
    · have : ¬ i < σ.length := fun q => hi ⟨hv, q⟩
      rw [List.getElem?_eq_none (by omega), List.getElem?_eq_none (by omega)]
    · rw [h.out i fun q => hv (hs i q), wipe_get]
      simp [hv]

theorem comp_ev {own : List Nat} {env : Env} {st st' : SD} {r : D} (ev : evE (.comp own tg z zc ze) env st = some (r, st')) :
    ∃ ts st1 rs, evE z env st = some (.list ts, st1) ∧ evC (wipeE env own) tg (evE zc) (evE ze) ts st1 = some (rs, st') ∧ rs.length ≤ 16777216 ∧ r = .list rs := by
  unfold evE at ev
  cases e1 : evE z env st with
  | none => rw [e1] at ev; simp at ev
  | some a =>
    obtain ⟨a, st1⟩ := a
    rw [e1] at ev
    cases a <;> simp [evList] at ev
    rename_i ts
    cases e2 : evC (wipeE env own) tg (evE zc) (evE ze) ts st1 with
    | none => rw [e2] at ev; simp at ev
    | some b =>
      obtain ⟨rs, st2⟩ := b
      rw [e2] at ev
      simp at ev
      obtain ⟨h, e3, e4⟩ := ev
      subst e4
      exact ⟨ts, st1, rs, rfl, e2, h, e3.symm⟩

/-- the reading of a comprehension -/
theorem rd_comp {K : PySem.W.Frag} {G : Act} {own : List Nat} {σ : L2.St} {H : Hp} {Q : VK} (hsub : (tgs tg).all (fun i => own.contains i) = true) (h : rdF K G (.comp own tg z zc ze) σ H Q) :
    tLc (rdI K G Mr z) (gT K G tg) (rdT K G zc) (rdE K G ze) own σ H Q := by
  obtain ⟨ft, F, env, st, r, st', I, ev, q⟩ := h
  obtain ⟨ts, st1, res, e1, e2, hlen, rfl⟩ := comp_ev ev
  refine ⟨ft, F, env, st, ts, st1, I, e1, fun J H1 F1 s1 I1 it => fun P hD => ?_⟩
  obtain ⟨Df, D0, DF⟩ := I1.hi.fresh hD
  have sub : ∀ i ∈ tgs tg, i ∈ own := fun i hi => by simpa using List.all_eq_true.mp hsub i hi
  refine ⟨fun i m Hc => i + m = ts.length ∧ ∃ Fc stc rs acc don, Step ft H1 F1 Hc Fc ∧ HI G ft Hc Fc ∧ StOk Hc ft stc ∧ Hc P = some (.lst acc) ∧ ¬ Fc P ∧ RepL K Hc Fc don acc ∧
      evC (wipeE env own) tg (evE zc) (evE ze) (ts.drop i) stc = some (rs, st') ∧ don ++ rs = res, ⟨ts.length, by omega, F1, st1, res, [], [], ?_, ?_, ?_, upd_same, DF, RepL.nil, by simpa using e2, rfl⟩, ?_⟩
  · exact Step.write .refl hD
  · exact (Grow.own I1.hi hD).hi I1.hi
  · exact I1.sto.write Df
  · rintro i m Hc ⟨him, Fc, stc, rs, acc, don, sc, hic, sto, hacc, nF, rpl, evc, hres⟩
    have kS : Keeps (Mr G ft F1) H1 Hc := fun a o n e => sc.keep a o e n
    have kF : Keeps F1 H1 Hc := fun a o f e => sc.keep a o e (I1.hi.nft a f)
    by_cases hi : i < ts.length
    · right
      obtain ⟨t, et⟩ : ∃ t, ts[i]? = some t := ⟨_, List.getElem?_eq_getElem hi⟩
      have ed : ts.drop i = t :: ts.drop (i + 1) := by
        rw [List.drop_eq_getElem_cons hi]
        congr 1
        rw [List.getElem?_eq_getElem hi] at et
        exact Option.some.inj et
      rw [ed] at evc
      obtain ⟨env', b, st2, es, ec, er⟩ := evC_cons evc
      obtain ⟨go, yl⟩ := it.go Hc Fc kS kF sc.old hic.trk i t et
      refine ⟨go, fun H' => i + 1 + (m - 1) = ts.length ∧ ∃ Fc stc rs acc don, Step ft H1 F1 H' Fc ∧ HI G ft H' Fc ∧ StOk H' ft stc ∧ H' P = some (.lst acc) ∧ ¬ Fc P ∧ RepL K H' Fc don acc ∧
        evC (wipeE env own) tg (evE zc) (evE ze) (ts.drop (i + 1)) stc = some (rs, st') ∧ don ++ rs = res, fun H' hN => ⟨m - 1, by omega, hN⟩, fun xv H' hy => ?_⟩
      obtain ⟨F2, gr, rx⟩ := yl xv H' hy
      have s2 : Step ft H1 F1 H' F2 := sc.trans gr.step
      have I2 : ZI K G ft (L2.wipe σ own) H' F2 (wipeE env own) stc := (I1.step s2 (gr.hi hic) (sto.same gr.same)).wipe own
      refine ⟨ft, F2, wipeE env own, stc, t, env', I2, rx, es, fun σ2 I3 sim => ⟨wipe_sim sim sub, ft, F2, env', stc, b, st2, I3, ec, fun H3 F3 s3 I4 => ?_⟩⟩
      have hD2 : H' P = some (.lst acc) := gr.same P _ hacc
      have hD3 : H3 P = some (.lst acc) := s3.keep P _ hD2 Df
      have nF2 : ¬ F2 P := gr.step.nf (ft := ft) (by simp [hacc]) nF
      have nF3 : ¬ F3 P := s3.nf (by simp [hD2]) nF2
      have rp2 : RepL K H' F2 don acc := gr.step.repL hic rpl
      have rp3 : RepL K H3 F3 don acc := s3.repL I3.hi rp2
      cases b with
      | false =>
        simp only [Bool.false_eq_true, if_false] at er ⊢
        exact ⟨by omega, F3, st2, rs, acc, don, s2.trans s3, I4.hi, I4.sto, hD3, nF3, rp3, er, hres⟩
      | true =>
        simp only [if_true] at er ⊢
        obtain ⟨y, st3, rs', ey, er, rfl⟩ := er
        refine ⟨ft, F3, env', st2, y, st3, I4, ey, fun yv H4 F4 s4 I5 ry => ⟨acc, s4.keep P _ hD3 Df, ?_, by omega, F4, st3, rs', acc ++ [yv], don ++ [y], ?_, ?_, ?_, upd_same, ?_, ?_, er, by simpa using hres⟩⟩
        · rw [sl_eq, rpl.length]
          have := congrArg List.length hres
          simp at this
          omega
        · exact ((s2.trans s3).trans s4).write hD
        · exact I5.hi.write (by simp [s4.keep P _ hD3 Df]) (s4.nf (by simp [hD3]) nF3) D0 Df
        · exact I5.sto.write Df
        · exact s4.nf (by simp [hD3]) nF3
        · have nF4 := s4.nf (by simp [hD3]) nF3
          exact RepL.keep (keepW nF4) (fun _ h => h) _ ((s4.repL I4.hi rp3).append (RepL.cons ry RepL.nil))
    · left
      have hi' : i = ts.length := by omega
      subst hi'
      rw [List.drop_length] at evc
      simp [evC] at evc
      obtain ⟨rfl, rfl⟩ := evc
      simp at hres
      subst hres
      exact ⟨it.stop Hc kS _ (Nat.le_refl _), q P Hc Fc (s1.trans sc) (I1.step sc hic sto) (s1.bk0 hD) nF ⟨acc, hacc, rpl⟩⟩
theorem qf_comp {tgx iter elt : Expr} {ifs : List Expr} {scope : Scope} (own : List (Str × Nat)) (hi : QI C N sc Mr tgx iter z) (ok : blkC N sc scope own = true) (hg : QG C N (relS scope sc) (fnC scope) tgx tg)
    (ht : QTs C N (relS scope sc) ifs zc) (he : QE C N (relS scope sc) elt ze) (hsub : (tgs tg).all (fun i => (own.map (·.2)).contains i) = true := by rfl) (hs : ∀ (env : PySem.Env) v, foldedSetIterable iter env v = pure v := by intro _ _; rfl) :
    QF C N sc (.ListComp elt [⟨tgx, iter, ifs, 0⟩] scope pos) (.comp (own.map (·.2)) tg z zc ze) := fun X G g n s =>
  (pe_lc g.calm g.nd (hi X G g n s) (by rw [n, s]; exact blkOk_by ok) (fun s' H Ca cl fp => hg _ G (good_blk g) n (by subst s; rfl) rfl) (fun s' H Ca cl fp => ht _ G (good_blk g) n (by subst s; rfl))
    (fun s' H Ca cl fp => he _ G (good_blk g) n (by subst s; rfl)) (hs _)).wk fun σ H Q h => rd_comp hsub h
end Z
namespace Z
open PySem PySem.Spec PyProof.Rows L2

/-! ### statements: syntax and meaning -/
inductive ZS where
  | brk
  | cont
  | seq (a b : ZS)
  | asg (tg : Tg) (e : ZE)
  | asgO (i : Nat) (e : ZE)
  | asgM (i : Nat) (f : List D → Option D) (a : ZE)
  | asgL (i : Nat) (e : ZE)
  | par (is : List (Nat × Bool)) (a : ZE)
  | aug (i : Nat) (f : D → D → Option D) (e : ZE)
  | seti (i : Nat) (f : D → D → D → Option D) (v ix : ZE)
  | augi (i : Nat) (g : D → D → Option D) (h : D → D → Option D) (f : D → D → D → Option D) (ix v : ZE)
  | mut (i : Nat) (f : D → D → Option D) (v : ZE)
  | pop (tg : Tg) (i : Nat) (f : D → Option (D × D))
  | drop (e : ZE)
  | sset (i j : Nat) (e : ZE)
  | frz (i : Nat)
  | ife (c : ZE) (a b : ZS)
  | skip
  | whl (c : ZE) (b : ZS)
  | forr (tg : Tg) (it : ZE) (b : ZS)
  | ret (e : ZE)
inductive Out where
  | nx (env : Env) (st : SD)
  | ret (d : D) (st : SD)
  | bk (env : Env) (st : SD)
  | ct (env : Env) (st : SD)
def itW (t : Env → SD → Option (Bool × SD)) (b : Env → SD → Option Out) : Nat → Env → SD → Option Out
  | 0, _, _ => none
  | n + 1, env, st => (t env st).bind fun c => if c.1 then (b env c.2).bind fun o => match o with
      | .nx e s => itW t b n e s
      | .ct e s => itW t b n e s
      | .bk e s => some (.nx e s)
      | .ret d s => some (.ret d s)
    else some (.nx env c.2)
def itF (tg : Tg) (b : Env → SD → Option Out) : List D → Env → SD → Option Out
  | [], env, st => some (.nx env st)
  | t :: ts, env, st => (setT tg t env).bind fun env' => (b env' st).bind fun o => match o with
      | .nx e s => itF tg b ts e s
      | .ct e s => itF tg b ts e s
      | .bk e s => some (.nx e s)
      | .ret d s => some (.ret d s)
def setMix (env : Env) : List (Nat × Bool) → List D → Option Env
  | [], [] => some env
  | (i, b) :: is, t :: ts => setMix (env.set i (if b then .ow t else .sh t)) is ts
  | _, _ => none
def evS (n : Nat) : ZS → Env → SD → Option Out
  | .brk, env, st => some (.bk env st)
  | .cont, env, st => some (.ct env st)
  | .skip, env, st => some (.nx env st)
  | .seq a b, env, st => (evS n a env st).bind fun o => match o with | .nx e s => evS n b e s | o => some o
  | .asg tg e, env, st => (evE e env st).bind fun x => (setT tg x.1 env).map fun env' => .nx env' x.2
  | .asgO i e, env, st => (evE e env st).map fun x => .nx (env.set i (.ow x.1)) x.2
  | .asgM i f a, env, st => (evE a env st).bind fun x => (evList x).bind fun l => match l.2 with
      | none => (f l.1).map fun t => .nx (env.set i .st) (some t)
      | some _ => none
  | .asgL i e, env, st => (evE e env st).bind fun x => match x.2, x.1 with
      | none, .list [.int a, .int b] => some (.nx (env.set i .st) (some (.list [.int a, .int b])))
      | _, _ => none
  | .par is a, env, st => (evE a env st).bind fun x => (evList x).bind fun l => (setMix env is l.1).map fun env' => .nx env' l.2
  | .aug i f e, env, st => match env[i]? with
      | some (.sh t) => (evE e env st).bind fun x => (f t x.1).map fun r => .nx (env.set i (.sh r)) x.2
      | _ => none
  | .seti i f v ix, env, st => (evE v env st).bind fun x => (evE ix env x.2).bind fun k => match env[i]? with
      | some (.ow t) => (f t k.1 x.1).map fun r => .nx (env.set i (.ow r)) k.2
      | _ => none
  | .augi i g h f ix v, env, st => (evE ix env st).bind fun k => match env[i]? with
      | some (.ow t) => (g t k.1).bind fun old => (evE v env k.2).bind fun x => (h old x.1).bind fun nw => (f t k.1 nw).map fun r => .nx (env.set i (.ow r)) x.2
      | _ => none
  | .mut i f v, env, st => (evE v env st).bind fun x => match env[i]? with
      | some (.ow t) => (f t x.1).map fun r => .nx (env.set i (.ow r)) x.2
      | _ => none
  | .pop tg i f, env, st => match env[i]? with
      | some (.ow t) => (f t).bind fun r => (setT tg r.1 (env.set i (.ow r.2))).map fun env' => .nx env' st
      | _ => none
  | .drop e, env, st => (evE e env st).map fun x => .nx env x.2
  | .sset i j e, env, st => (evE e env st).bind fun x => match env[i]? with
      | some .st => (x.2.bind fun t => dItemSet t j x.1).map fun r => .nx env (some r)
      | _ => none
  | .frz i, env, st => match env[i]? with
      | some (.ow t) => some (.nx (env.set i (.sh t)) st)
      | some (.sh t) => some (.nx env st)
      | _ => none
  | .ife c a b, env, st => (evE c env st).bind fun x => (evBool x).bind fun c => if c.1 then evS n a env c.2 else evS n b env c.2
  | .whl c b, env, st => itW (fun env st => (evE c env st).bind evBool) (evS n b) n env st
  | .forr tg it b, env, st => (evE it env st).bind fun x => (evList x).bind fun l => itF tg (evS n b) l.1 env l.2
  | .ret e, env, st => (evE e env st).map fun x => .ret x.1 x.2

/-! ### owned slots written -/
section
variable {K : PySem.W.Frag} {G : Act} {ft : List Addr} {σ : L2.St} {H H' : Hp} {F F' : Fz} {env : Env} {st st' : SD}
theorem ZI.setAny (I : ZI K G ft σ H F env st) {i : Nat} {s : Sl} {ov : Option V} (ok : SlotOk K G ft H F st s (some ov)) (ap : ∀ t p, s = .ow t → ov = some (.ref p) → ∀ j, j ≠ i → ¬ OwAt env σ j p) :
    ZI K G ft (σ.set i ov) H F (env.set i s) st where
  hi := I.hi
  len := by rw [List.length_set, List.length_set, I.len]
  slot := fun j u e => by
    by_cases h : i = j
    · subst h
      have hl : i < env.length := by
        have := (List.getElem?_eq_some_iff.mp e).1
        simpa using this
      rw [List.getElem?_set_self hl] at e
      cases e
      rw [List.getElem?_set_self (by rw [I.len]; exact hl)]
      exact ok
    · rw [List.getElem?_set_ne h] at e
      rw [List.getElem?_set_ne h]
      exact I.slot j u e
  dis := fun a b p ha hb => by
    have low : ∀ {c : Nat}, OwAt (env.set i s) (σ.set i ov) c p → c = i ∧ (∃ t, s = .ow t) ∧ ov = some (.ref p) ∨ c ≠ i ∧ OwAt env σ c p := fun {c} ⟨⟨u, e1⟩, e2⟩ => by
      by_cases h : i = c
      · subst h
        have hl : i < env.length := by
          have := (List.getElem?_eq_some_iff.mp e1).1
          simpa using this
        rw [List.getElem?_set_self hl] at e1
        rw [List.getElem?_set_self (by rw [I.len]; exact hl)] at e2
        exact .inl ⟨rfl, ⟨u, Option.some.inj e1⟩, Option.some.inj e2⟩
      · rw [List.getElem?_set_ne h] at e1 e2
        exact .inr ⟨fun e => h e.symm, ⟨u, e1⟩, e2⟩
    rcases low ha with ⟨rfl, ⟨t, e⟩, eo⟩ | ⟨na, oa⟩
    · rcases low hb with ⟨rfl, _, _⟩ | ⟨nb, ob⟩
      · rfl
      · exact absurd ob (ap t p e eo b nb)
    · rcases low hb with ⟨rfl, ⟨t, e⟩, eo⟩ | ⟨nb, ob⟩
      · exact absurd oa (ap t p e eo a na)
      · exact I.dis a b p oa ob
  sto := I.sto
/-- the owned object of slot i is written -/
theorem ZI.mut (I : ZI K G ft σ H F env st) {i : Nat} {t t' : D} {p : Addr} {o : HO} (e1 : env[i]? = some (.ow t)) (e2 : σ[i]? = some (some (.ref p))) (hp : OwnAt K (upd H p o) F t' p) : ZI K G ft σ (upd H p o) F (env.set i (.ow t')) st := by
  obtain ⟨p', e3, n1, n2, n3, ow⟩ := I.slot i _ e1
  rw [e2] at e3
  cases e3
  have hi' := I.hi.write (o := o) ow.trk n1 n3 n2
  have base : ZI K G ft (σ.set i none) (upd H p o) F (env.set i .no) st := by
    refine ⟨hi', by rw [List.length_set, List.length_set, I.len], fun j u e => ?_, fun a b q ha hb => (I.setNo (i := i)).dis a b q ha hb, I.sto.write n2⟩
    have q := (I.setNo (i := i)).slot j u e
    cases u with
    | no => trivial
    | sh t => obtain ⟨v, e1, r⟩ := q; exact ⟨v, e1, Rep.keep (keepW n1) (fun _ h => h) _ r⟩
    | br t =>
      obtain ⟨v, e1, r⟩ := q
      exact ⟨v, e1, r.keep (keepW fun h => h.1 n3) (fun _ h => h) (keepW n1) fun _ h => h⟩
    | ow u =>
      obtain ⟨r, e4, m1, m2, m3, ow'⟩ := q
      have ne : r ≠ p := by
        rintro rfl
        have hij : i ≠ j := by
          rintro rfl
          have hl : i < env.length := by
            have := (List.getElem?_eq_some_iff.mp e).1
            simpa using this
          rw [List.getElem?_set_self hl] at e
          cases e
        rw [List.getElem?_set_ne hij] at e e4
        exact hij (I.dis i j r ⟨⟨_, e1⟩, e2⟩ ⟨⟨_, e⟩, e4⟩)
      refine ⟨r, e4, m1, m2, m3, ?_⟩
      cases u with
      | list ts =>
        obtain ⟨xs, q1, q2⟩ := ow'
        exact ⟨xs, by rw [upd_ne ne]; exact q1, RepL.keep (keepW n1) (fun _ h => h) _ q2⟩
      | dict ts =>
        obtain ⟨xs, q1, q2⟩ := ow'
        exact ⟨xs, by rw [upd_ne ne]; exact q1, RepD.keep (keepW n1) (fun _ h => h) _ q2⟩
      | _ => exact ow'.elim
    | st =>
      obtain ⟨v, t, e1, e2, r⟩ := q
      exact ⟨v, t, e1, e2, r.keep fun a o' m e => by rw [upd_ne (fun z => n2 (by rw [← z]; exact m))]; exact e⟩
  have fin := base.setAny (i := i) (s := .ow t') (ov := some (.ref p)) ⟨p, rfl, n1, n2, n3, hp⟩ (fun u q e eo j hj => ?_)
  · rw [List.set_set, List.set_set] at fin
    have : σ.set i (some (.ref p)) = σ := by
      apply List.ext_getElem?
      intro j
      by_cases h : i = j
      · subst h
        rw [List.getElem?_set_self (List.getElem?_eq_some_iff.mp e2).1, e2]
      · rw [List.getElem?_set_ne h]
    rw [this] at fin
    exact fin
  · cases eo
    rintro ⟨⟨u', q1⟩, q2⟩
    rw [List.getElem?_set_ne (Ne.symm hj)] at q1 q2
    exact hj (I.dis j i p ⟨⟨_, q1⟩, q2⟩ ⟨⟨_, e1⟩, e2⟩)
/-- the owned object of slot i becomes shared -/
theorem ZI.frz (I : ZI K G ft σ H F env st) {i : Nat} {t : D} (e1 : env[i]? = some (.ow t)) : ∃ F', ZI K G ft σ H F' (env.set i (.sh t)) st ∧ ∀ a, F a → F' a := by
  obtain ⟨p, e2, n1, n2, n3, ow⟩ := I.slot i _ e1
  refine ⟨fun a => F a ∨ a = p, ⟨I.hi.share ow.trk n2 n3, by rw [List.length_set, I.len], fun j u e => ?_, fun a b q ha hb => ?_, I.sto⟩, fun _ h => .inl h⟩
  · by_cases h : i = j
    · subst h
      rw [List.getElem?_set_self (List.getElem?_eq_some_iff.mp e1).1] at e
      cases e
      exact ⟨_, e2, ow.rep⟩
    · rw [List.getElem?_set_ne h] at e
      have q := I.slot j u e
      have kk : Keeps F H H := fun _ _ _ e => e
      cases u with
      | no => trivial
      | sh t => obtain ⟨v, e1, r⟩ := q; exact ⟨v, e1, Rep.keep kk (fun _ h => .inl h) _ r⟩
      | br t => obtain ⟨v, e1, r⟩ := q; exact ⟨v, e1, r.keep (fun _ _ _ e => e) (fun _ h => h) kk fun _ h => .inl h⟩
      | ow u =>
        obtain ⟨r, e4, m1, m2, m3, ow'⟩ := q
        refine ⟨r, e4, fun f => f.elim m1 fun z => ?_, m2, m3, ?_⟩
        · subst z
          exact h (I.dis i j r ⟨⟨_, e1⟩, e2⟩ ⟨⟨_, e⟩, e4⟩)
        · cases u with
          | list ts => obtain ⟨xs, q1, q2⟩ := ow'; exact ⟨xs, q1, RepL.keep kk (fun _ h => .inl h) _ q2⟩
          | dict ts => obtain ⟨xs, q1, q2⟩ := ow'; exact ⟨xs, q1, RepD.keep kk (fun _ h => .inl h) _ q2⟩
          | _ => exact ow'.elim
      | st => exact q
  · have low : ∀ {c : Nat}, OwAt (env.set i (.sh t)) σ c q → OwAt env σ c q := fun {c} ⟨⟨u, e1⟩, e2⟩ => by
      by_cases h : i = c
      · subst h
        have hl : i < env.length := by
          have := (List.getElem?_eq_some_iff.mp e1).1
          simpa using this
        rw [List.getElem?_set_self hl] at e1
        cases e1
      · rw [List.getElem?_set_ne h] at e1
        exact ⟨⟨u, e1⟩, e2⟩
    exact I.dis a b q (low ha) (low hb)
end

/-! ### readings -/
/-- what was shared stays -/
structure SS (H : Hp) (F : Fz) (H' : Hp) (F' : Fz) : Prop where
  keep : Keeps F H H'
  old : ∀ a, F a → F' a
theorem SS.refl {H F} : SS H F H F := ⟨fun _ _ _ e => e, fun _ h => h⟩
theorem SS.trans {H F H1 F1 H2 F2} (a : SS H F H1 F1) (b : SS H1 F1 H2 F2) : SS H F H2 F2 := ⟨fun c o f e => b.keep c o (a.old c f) (a.keep c o f e), fun c f => b.old c (a.old c f)⟩
theorem Step.ss {G ft H F H' F'} (h : HI G ft H F) (s : Step ft H F H' F') : SS H F H' F' := ⟨fun a o f e => s.keep a o e (h.nft a f), s.old⟩
theorem Grow.ss {H F H' F'} (s : Grow H F H' F') : SS H F H' F' := ⟨fun a o f e => s.same a o e, s.old⟩
def EndOk (K : PySem.W.Frag) (G : Act) (D : Ends) (H0 : Hp) (F0 : Fz) : Out → Prop
  | .nx env st => ∀ ft σ H F, SS H0 F0 H F → ZI K G ft σ H F env st → D.nx σ H
  | .bk env st => ∀ ft σ H F, SS H0 F0 H F → ZI K G ft σ H F env st → D.bk σ H
  | .ct env st => ∀ ft σ H F, SS H0 F0 H F → ZI K G ft σ H F env st → D.ct σ H
  | .ret d st => ∀ ft v H F, HI G ft H F → StOk H ft st → Rep K H F d v → D.rt v H
theorem EndOk.ss {K G D H0 F0 H1 F1} (s : SS H0 F0 H1 F1) : ∀ {o : Out}, EndOk K G D H0 F0 o → EndOk K G D H1 F1 o
  | .nx _ _, h => fun ft σ H F q I => h ft σ H F (s.trans q) I
  | .bk _ _, h => fun ft σ H F q I => h ft σ H F (s.trans q) I
  | .ct _ _, h => fun ft σ H F q I => h ft σ H F (s.trans q) I
  | .ret _ _, h => h
def rdS (K : PySem.W.Frag) (G : Act) (z : ZS) : TS := fun Dn σ H => ∃ ft F env st n o, ZI K G ft σ H F env st ∧ evS n z env st = some o ∧ EndOk K G Dn H F o
def QS (C : Ct) (N : List Str) (sc : Scope) (s : Stmt) (z : ZS) : Prop := ∀ X G, Good C X → X.N = N → X.env.scope = sc → X.fn = (fun _ => true) → PS X s (rdS X.K G z)
def QSs (C : Ct) (N : List Str) (sc : Scope) (s : List Stmt) (z : ZS) : Prop := ∀ X G, Good C X → X.N = N → X.env.scope = sc → X.fn = (fun _ => true) → PSs X s (rdS X.K G z)
variable {C : Ct} {N : List Str} {sc : Scope} {x y w : Expr} {z zx zy zw zc ze : ZE} {pos : Pos} {es : List Expr} {M : Md} {tg tr : Tg} {s : Stmt} {ss : List Stmt} {q q1 q2 : ZS}

theorem seq_ev {n : Nat} {env : Env} {st : SD} {o : Out} (h : evS n (.seq q1 q2) env st = some o) : ∃ o1, evS n q1 env st = some o1 ∧ match o1 with | .nx e s => evS n q2 e s = some o | o' => o = o' := by
  unfold evS at h
  cases e : evS n q1 env st with
  | none => rw [e] at h; simp at h
  | some o1 =>
    rw [e] at h
    refine ⟨o1, rfl, ?_⟩
    cases o1 <;> simp at h ⊢ <;> first | exact h | exact h.symm
theorem qss_one (h : QS C N sc s q) : QSs C N sc [s] q := fun X G g n e f => pss_one (h X G g n e f)
theorem qss_nil : QSs C N sc [] .skip := fun X G g n e f => PSs.wk pss_nil fun Dn σ H ⟨ft, F, env, st, m, o, I, ev, k⟩ => by
  unfold evS at ev
  cases ev
  exact k ft σ H F .refl I
theorem qss_cons (h : QS C N sc s q1) (h2 : QSs C N sc ss q2) : QSs C N sc (s :: ss) (.seq q1 q2) := fun X G g n e f =>
  (pss_cons (h X G g n e f) (h2 X G g n e f)).wk fun Dn σ H ⟨ft, F, env, st, m, o, I, ev, k⟩ => by
    obtain ⟨o1, e1, e2⟩ := seq_ev ev
    refine ⟨ft, F, env, st, m, o1, I, e1, ?_⟩
    cases o1 with
    | nx env' st' => exact fun ft' σ' H' F' s I' => ⟨ft', F', env', st', m, o, I', e2, k.ss s⟩
    | _ => simp at e2; subst e2; exact k
theorem frz_ev {n i : Nat} {env : Env} {st : SD} {o : Out} (h : evS n (.frz i) env st = some o) : (∃ t, env[i]? = some (.ow t) ∧ o = .nx (env.set i (.sh t)) st) ∨ o = .nx env st := by
  unfold evS at h
  split at h
  · rename_i t e
    cases h
    exact .inl ⟨t, e, rfl⟩
  · cases h
    exact .inr rfl
  · cases h
theorem qss_frz (i : Nat) (h2 : QSs C N sc ss q2) : QSs C N sc ss (.seq (.frz i) q2) := fun X G g n e f =>
  (h2 X G g n e f).wk fun Dn σ H ⟨ft, F, env, st, m, o, I, ev, k⟩ => by
    obtain ⟨o1, e1, e2⟩ := seq_ev ev
    rcases frz_ev e1 with ⟨t, e3, rfl⟩ | rfl
    · obtain ⟨F', I', hF⟩ := I.frz e3
      exact ⟨ft, F', _, st, m, o, I', e2, k.ss ⟨fun _ _ _ e => e, hF⟩⟩
    · exact ⟨ft, F, env, st, m, o, I, e2, k⟩
theorem qs_brk : QS C N sc (.Break pos) .brk := fun X G g n e f => PS.wk ps_break fun Dn σ H ⟨ft, F, env, st, m, o, I, ev, k⟩ => by
  unfold evS at ev
  cases ev
  exact k ft σ H F .refl I
theorem qs_cont : QS C N sc (.Continue pos) .cont := fun X G g n e f => PS.wk ps_continue fun Dn σ H ⟨ft, F, env, st, m, o, I, ev, k⟩ => by
  unfold evS at ev
  cases ev
  exact k ft σ H F .refl I
theorem map_ev {α β : Type} {a : Option α} {f : α → β} {b : β} (h : a.map f = some b) : ∃ x, a = some x ∧ b = f x := by
  cases a with
  | none => simp at h
  | some x => exact ⟨x, rfl, by simpa using h.symm⟩
theorem bind_ev {α β : Type} {a : Option α} {f : α → Option β} {b : β} (h : a.bind f = some b) : ∃ x, a = some x ∧ f x = some b := by
  cases a with
  | none => simp at h
  | some x => exact ⟨x, rfl, h⟩
theorem list_ev {x : D × SD} {l : List D × SD} (h : evList x = some l) : x = (.list l.1, l.2) := by
  obtain ⟨a, s⟩ := x
  cases a <;> simp [evList] at h
  subst h
  rfl
theorem bool_ev {x : D × SD} {l : Bool × SD} (h : evBool x = some l) : x = (.bool l.1, l.2) := by
  obtain ⟨a, s⟩ := x
  cases a <;> simp [evBool] at h
  subst h
  rfl
theorem qs_ret (h : QE C N sc x z) : QS C N sc (.Return (some x) pos) (.ret z) := fun X G g n e f => (ps_ret (h X G g n e)).wk fun Dn σ H ⟨ft, F, env, st, m, o, I, ev, k⟩ => by
  unfold evS at ev
  obtain ⟨⟨d, st'⟩, e1, rfl⟩ := map_ev ev
  exact ⟨ft, F, env, st, d, st', I, e1, fun v H' F' s I' r => k ft v H' F' I'.hi I'.sto r⟩
theorem qs_drop (h : QE C N sc x z) (hs : ∀ env : PySem.Env, env.scope = sc → swapsWith x none pos.line env = pure false := by intro env h; cases env; cases h; rfl) : QS C N sc (.Expr x pos) (.drop z) := fun X G g n e f => (ps_expr (h X G g n e) (hs _ e)).wk fun Dn σ H ⟨ft, F, env, st, m, o, I, ev, k⟩ => by
  unfold evS at ev
  obtain ⟨⟨d, st'⟩, e1, rfl⟩ := map_ev ev
  exact ⟨ft, F, env, st, d, st', I, e1, fun v H' F' s I' r => k ft σ H' F' (s.ss I.hi) I'⟩
theorem qs_ife (hc : QT C N sc x zc) (h1 : QSs C N sc ss q1) {ss2 : List Stmt} (h2 : QSs C N sc ss2 q2) : QS C N sc (.If x ss ss2 pos) (.ife zc q1 q2) := fun X G g n e f => (ps_if (hc X G g n e) (h1 X G g n e f) (h2 X G g n e f)).wk fun Dn σ H ⟨ft, F, env, st, m, o, I, ev, k⟩ => by
  unfold evS at ev
  obtain ⟨c, e1, ev1⟩ := bind_ev ev
  obtain ⟨⟨b, st'⟩, e2, ev2⟩ := bind_ev ev1
  obtain rfl := bool_ev e2
  refine ⟨ft, F, env, st, b, st', I, e1, fun H' F' s I' => ?_⟩
  cases b with
  | true => exact ⟨ft, F', env, st', m, o, I', by simpa using ev2, k.ss (s.ss I.hi)⟩
  | false => exact ⟨ft, F', env, st', m, o, I', by simpa using ev2, k.ss (s.ss I.hi)⟩
/-- name = a value -/
theorem qs_asg {nm : Str} {p : Pos} (i : Nat) (h : QE C N sc x z) (hN : N[i]? = some nm := by rfl) (hx : Loc sc nm := by first | exact Or.inl rfl | exact Or.inr rfl)
    (hs : ∀ env : PySem.Env, env.scope = sc → swapsWith x (some (.Name nm p)) pos.line env = pure false := by intro env h; cases env; cases h; rfl) : QS C N sc (.Assign [.Name nm p] x pos) (.asg (.one i) z) := fun X G g n e f =>
  (ps_set (i := i) g.nd (by rw [n]; exact hN) (by rw [e]; exact hx) (h X G g n e) (hs _ e) (by rw [f]; exact .inl rfl)).wk fun Dn σ H ⟨ft, F, env, st, m, o, I, ev, k⟩ => by
    unfold evS at ev
    obtain ⟨⟨d, st'⟩, e1, ev⟩ := bind_ev ev
    simp only [setT, Option.map_some] at ev
    cases ev
    exact ⟨ft, F, env, st, d, st', I, e1, fun v H' F' s I' r => k ft _ H' F' (s.ss I.hi) (I'.setSh r)⟩
theorem ow_new {K G ft σ H H' F F' env st st' r p} (I : ZI K G ft σ H F env st) (s : Step ft H F H' F') (I' : ZI K G ft σ H' F' env st') (hp : H p = none) (np : ¬ F' p) (ow : OwnAt K H' F' r p) (i : Nat) : ZI K G ft (σ.set i (some (.ref p))) H' F' (env.set i (.ow r)) st' := by
  obtain ⟨n1, n2, n3⟩ := I.hi.fresh hp
  refine I'.setAny (s := .ow r) (ov := some (.ref p)) ⟨p, rfl, np, n1, n2, ow⟩ fun t q e eo j hj => ?_
  cases eo
  rintro ⟨⟨u, q1⟩, q2⟩
  obtain ⟨p', e3, _, _, _, ow'⟩ := I.slot j _ q1
  rw [q2] at e3
  cases e3
  exact ow'.trk hp
theorem qs_asgO {nm : Str} {p : Pos} (i : Nat) (h : QF C N sc x z) (hN : N[i]? = some nm := by rfl) (hx : Loc sc nm := by first | exact Or.inl rfl | exact Or.inr rfl)
    (hs : ∀ env : PySem.Env, env.scope = sc → swapsWith x (some (.Name nm p)) pos.line env = pure false := by intro env h; cases env; cases h; rfl) : QS C N sc (.Assign [.Name nm p] x pos) (.asgO i z) := fun X G g n e f =>
  (ps_set (i := i) g.nd (by rw [n]; exact hN) (by rw [e]; exact hx) (h X G g n e) (hs _ e) (by rw [f]; exact .inl rfl)).wk fun Dn σ H ⟨ft, F, env, st, m, o, I, ev, k⟩ => by
    unfold evS at ev
    obtain ⟨⟨d, st'⟩, e1, rfl⟩ := map_ev ev
    exact ⟨ft, F, env, st, d, st', I, e1, fun p H' F' s I' hp np ow => k ft _ H' F' (s.ss I.hi) (ow_new I s I' hp np ow i)⟩
/-- name = [..] on one line -/
theorem qs_asgC {nm : Str} {p spos : Pos} {tgx iter elt : Expr} {ifs : List Expr} {scope : Scope} (i : Nat) (own : List (Str × Nat)) (hi : QI C N sc Mr tgx iter z) (ok : blkC N sc scope own = true) (hg : QG C N (relS scope sc) (fnC scope) tgx tg)
    (ht : QTs C N (relS scope sc) ifs zc) (he : QE C N (relS scope sc) elt ze) (hsub : (tgs tg).all (fun i => (own.map (·.2)).contains i) = true := by rfl) (hfs : ∀ (env : PySem.Env) v, foldedSetIterable iter env v = pure v := by intro _ _; rfl)
    (hN : N[i]? = some nm := by rfl) (hx : sc.names.lookup nm = some .local := by rfl)
    (hs : ∀ env : PySem.Env, env.scope = sc → swapsWith (.ListComp elt [⟨tgx, iter, ifs, 0⟩] scope pos) (some (.Name nm p)) spos.line env = pure true := by intro env h; cases env; cases h; rfl) :
    QS C N sc (.Assign [.Name nm p] (.ListComp elt [⟨tgx, iter, ifs, 0⟩] scope pos) spos) (.asgO i (.comp (own.map (·.2)) tg z zc ze)) := fun X G g n e f =>
  (ps_setLc (i := i) g.calm g.nd (by rw [n]; exact hN) (by rw [e]; exact hx) (hs _ e) (hi X G g n e) (by rw [n, e]; exact blkOk_by ok) (fun s' H Ca cl fp => hg _ G (good_blk g) n (by rw [← e]; rfl) rfl) (fun s' H Ca cl fp => ht _ G (good_blk g) n (by rw [← e]; rfl))
    (fun s' H Ca cl fp => he _ G (good_blk g) n (by rw [← e]; rfl)) (hfs _)).wk fun Dn σ H ⟨ft, F, env, st, m, o, I, ev, k⟩ => by
      unfold evS at ev
      obtain ⟨⟨d, st'⟩, e1, rfl⟩ := map_ev ev
      exact rd_comp (own := own.map (·.2)) (K := X.K) (G := G) (Q := fun v H1 => Dn.nx (σ.set i (some v)) H1) hsub ⟨ft, F, env, st, d, st', I, e1, fun p H' F' s I' hp np ow => k ft _ H' F' (s.ss I.hi) (ow_new I s I' hp np ow i)⟩
/-- a, b = a tuple -/
theorem qs_asgT {elts : List Expr} {kk : Nat} {p : Pos} (h : QE C N sc x z) (hg : QG C N sc (fun _ => true) (.Tuple elts kk p) tg)
    (hs : ∀ env : PySem.Env, env.scope = sc → swapsWithSole [.Tuple elts kk p] x pos.line env = pure false := by intro env h; cases env; cases h; rfl) (hw : ∀ env : PySem.Env, env.scope = sc → swappedStores [.Tuple elts kk p] x env = pure none := by intro env h; cases env; cases h; rfl)
    (h1 : ∀ env : PySem.Env, (assignEach [.Tuple elts kk p] env).map (·.2) = [assign (.Tuple elts kk p) env] := by intro _; rfl) : QS C N sc (.Assign [.Tuple elts kk p] x pos) (.asg tg z) := fun X G g n e f =>
  (ps_asg (h X G g n e) (hg X G g n e f) (hs _ e) (hw _ e) (h1 _)).wk fun Dn σ H ⟨ft, F, env, st, m, o, I, ev, k⟩ => by
    unfold evS at ev
    obtain ⟨⟨d, st'⟩, e1, ev⟩ := bind_ev ev
    obtain ⟨env', e2, rfl⟩ := map_ev ev
    exact ⟨ft, F, env, st, d, st', I, e1, fun v H' F' s I' r => ⟨ft, F', env, st', d, env', I', r, e2, fun σ' I2 _ => k ft σ' H' F' (s.ss I.hi) I2⟩⟩
/-- name op= e -/
theorem qs_aug {nm : Str} {p : Pos} {op : Operator} {f : D → D → Option D} (i : Nat) (ho : Op2 C (inplaceOp op) f) (h : QE C N sc x z) (hN : N[i]? = some nm := by rfl) (hx : Loc sc nm := by first | exact Or.inl rfl | exact Or.inr rfl) :
    QS C N sc (.AugAssign (.Name nm p) op x pos) (.aug i f z) := fun X G g n e fe =>
  (ps_aug (i := i) (ti := rop X.K f) g.nd (by rw [n]; exact hN) (by rw [e]; exact hx) (h X G g n e) (ho X g) (by rw [fe]; exact .inl rfl)).wk fun Dn σ H ⟨ft, F, env, st, m, o, I, ev, k⟩ => by
    unfold evS at ev
    split at ev
    · rename_i t e0
      obtain ⟨⟨d, st'⟩, e1, ev⟩ := bind_ev ev
      obtain ⟨r, e2, rfl⟩ := map_ev ev
      obtain ⟨v0, ev0, r0⟩ := I.slot i _ e0
      refine ⟨v0, ev0, ft, F, env, st, d, st', I, e1, fun v1 H1 F1 s1 I1 r1 => ?_⟩
      exact ⟨ft, F1, t, d, r, I1.hi.hl, I1.hi.rr (s1.rep I.hi r0), I1.hi.rr r1, e2, fun v H' F' gr rp => k ft _ H' F' ((s1.ss I.hi).trans gr.ss) ((I1.grow gr).setSh rp)⟩
    · cases ev
end Z
namespace Z
open PySem PySem.Spec PyProof.Rows L2
variable {C : Ct} {N : List Str} {sc : Scope} {x y w : Expr} {z zx zy zw zc ze : ZE} {pos : Pos} {es : List Expr} {M : Md} {tg tr : Tg} {s : Stmt} {ss : List Stmt} {q q1 q2 : ZS}

/-! ### while, for -/
theorem itW_succ {t : Env → SD → Option (Bool × SD)} {b : Env → SD → Option Out} {n : Nat} {env : Env} {st : SD} {o : Out} (h : itW t b (n + 1) env st = some o) :
    ∃ c st1, t env st = some (c, st1) ∧ if c = true then ∃ o1, b env st1 = some o1 ∧ (match o1 with | .nx e s => itW t b n e s = some o | .ct e s => itW t b n e s = some o | .bk e s => o = .nx e s | .ret d s => o = .ret d s) else o = .nx env st1 := by
  unfold itW at h
  obtain ⟨⟨c, st1⟩, e1, h⟩ := bind_ev h
  refine ⟨c, st1, e1, ?_⟩
  cases c with
  | false => simp at h ⊢; exact h.symm
  | true =>
    simp only [if_true] at h ⊢
    obtain ⟨o1, e2, h⟩ := bind_ev h
    refine ⟨o1, e2, ?_⟩
    cases o1 <;> simp at h ⊢ <;> first | exact h | exact h.symm
theorem qs_whl (hc : QT C N sc x zc) (hb : QSs C N sc ss q) : QS C N sc (.While x ss [] pos) (.whl zc q) := fun X G g n e f =>
  (ps_while (by rw [g.xe]; exact PassesOwn.never) (hc X G g n e) (hb X G g n e f)).wk fun Dn σ H ⟨ft, F, env, st, m, o, I, ev, k⟩ => by
    unfold evS at ev
    refine ⟨fun j σ H => ∃ ft F env st, ZI X.K G ft σ H F env st ∧ itW (fun env st => (evE zc env st).bind evBool) (evS m q) j env st = some o ∧ EndOk X.K G Dn H F o, ⟨m, ft, F, env, st, I, ev, k⟩, ?_⟩
    rintro j σ1 H1 ⟨ft1, F1, env1, st1, I1, ev1, k1⟩
    cases j with
    | zero => simp [itW] at ev1
    | succ j =>
      obtain ⟨c, st2, e1, e2⟩ := itW_succ ev1
      obtain ⟨x, e3, e4⟩ := bind_ev e1
      obtain rfl := bool_ev e4
      refine ⟨ft1, F1, env1, st1, c, st2, I1, e3, fun H2 F2 s2 I2 => ?_⟩
      have k2 := k1.ss (s2.ss I1.hi)
      cases c with
      | false =>
        simp only [Bool.false_eq_true, if_false] at e2 ⊢
        subst e2
        exact k2 ft1 σ1 H2 F2 .refl I2
      | true =>
        simp only [if_true] at e2 ⊢
        obtain ⟨o1, e5, e6⟩ := e2
        refine ⟨fun σ H => ∃ ft F env st, ZI X.K G ft σ H F env st ∧ itW (fun env st => (evE zc env st).bind evBool) (evS m q) j env st = some o ∧ EndOk X.K G Dn H F o, fun σ' H' h => ⟨j, Nat.lt_succ_self j, h⟩, ft1, F2, env1, st2, m, o1, I2, e5, ?_⟩
        cases o1 with
        | nx e s => exact fun ft σ H F ss I => ⟨ft, F, e, s, I, e6, k2.ss ss⟩
        | ct e s => exact fun ft σ H F ss I => ⟨ft, F, e, s, I, e6, k2.ss ss⟩
        | bk e s => simp at e6; subst e6; exact k2
        | ret d s => simp at e6; subst e6; exact k2
theorem itF_cons {b : Env → SD → Option Out} {t : D} {ts : List D} {env : Env} {st : SD} {o : Out} (h : itF tg b (t :: ts) env st = some o) :
    ∃ env' o1, setT tg t env = some env' ∧ b env' st = some o1 ∧ (match o1 with | .nx e s => itF tg b ts e s = some o | .ct e s => itF tg b ts e s = some o | .bk e s => o = .nx e s | .ret d s => o = .ret d s) := by
  unfold itF at h
  obtain ⟨env', e1, h⟩ := bind_ev h
  obtain ⟨o1, e2, h⟩ := bind_ev h
  refine ⟨env', o1, e1, e2, ?_⟩
  cases o1 <;> simp at h ⊢ <;> first | exact h | exact h.symm
theorem qs_for {tgx : Expr} (hi : QI C N sc Ms tgx x z) (hg : QG C N sc (fun _ => true) tgx tg) (hb : QSs C N sc ss q) (hfs : ∀ (env : PySem.Env) v, foldedSetIterable x env v = pure v := by intro _ _; rfl) : QS C N sc (.For tgx x ss [] pos) (.forr tg z q) := fun X G g n e f =>
  (ps_for (by rw [g.xe]; exact PassesOwn.never) g.calm (hi X G g n e) (hg X G g n e f) (hb X G g n e f) (hfs _)).wk fun Dn σ H ⟨ft, F, env, st, m, o, I, ev, k⟩ => by
    unfold evS at ev
    obtain ⟨x, e1, ev1⟩ := bind_ev ev
    obtain ⟨⟨ts, st1⟩, e2, ev2⟩ := bind_ev ev1
    obtain rfl := list_ev e2
    refine ⟨ft, F, env, st, ts, st1, I, e1, fun J H1 F1 s1 I1 it => ?_⟩
    have kS : ∀ {H2 : Hp} {F2 : Fz} {ft2 : List Addr}, SS H1 F1 H2 F2 → HI G ft2 H2 F2 → Keeps (Ms G ft F1) H1 H2 := fun {H2 F2 ft2} s h a ob m eo => by
      rcases m with m | ⟨m1, m2⟩
      · exact s.keep a ob m eo
      · cases e0 : G.H0 a with
        | none => exact absurd e0 m1
        | some o0 =>
          have q1 := I1.hi.keep a o0 e0 m2
          rw [eo] at q1
          cases q1
          refine h.keep a ob e0 fun z => ?_
          by_cases h0 : G.ft0 = []
          · exact m1 (h.fn h0 a z)
          · rw [h.pf h0] at z
            rw [I1.hi.pf h0] at m2
            exact m2 z
    refine ⟨fun i j σ H2 => i + j = ts.length ∧ ∃ ft F2 env st, ZI X.K G ft σ H2 F2 env st ∧ itF tg (evS m q) (ts.drop i) env st = some o ∧ EndOk X.K G Dn H2 F2 o ∧ SS H1 F1 H2 F2, ⟨ts.length, by omega, ft, F1, env, st1, I1, by simpa using ev2, k.ss (s1.ss I.hi), .refl⟩, ?_⟩
    rintro i j σ2 H2 ⟨hij, ft2, F2, env2, st2, I2, ev3, k2, ss2⟩
    by_cases hi : i < ts.length
    · right
      obtain ⟨t, et⟩ : ∃ t, ts[i]? = some t := ⟨_, List.getElem?_eq_getElem hi⟩
      have ed : ts.drop i = t :: ts.drop (i + 1) := by
        rw [List.drop_eq_getElem_cons hi]
        congr 1
        rw [List.getElem?_eq_getElem hi] at et
        exact Option.some.inj et
      rw [ed] at ev3
      obtain ⟨env', o1, e3, e4, e5⟩ := itF_cons ev3
      obtain ⟨go, yl⟩ := it.go H2 F2 (kS ss2 I2.hi) ss2.keep ss2.old I2.hi.trk i t et
      refine ⟨go, fun σ H3 => i + 1 + (j - 1) = ts.length ∧ ∃ ft F2 env st, ZI X.K G ft σ H3 F2 env st ∧ itF tg (evS m q) (ts.drop (i + 1)) env st = some o ∧ EndOk X.K G Dn H3 F2 o ∧ SS H1 F1 H3 F2, fun σ' H' h => ⟨j - 1, by omega, h⟩, fun v H' hy => ?_⟩
      obtain ⟨F3, gr, rv⟩ := yl v H' hy
      have k3 := k2.ss gr.ss
      have ss3 := ss2.trans gr.ss
      refine ⟨ft2, F3, env2, st2, t, env', I2.grow gr, rv, e3, fun σ3 I3 _ => ⟨ft2, F3, env', st2, m, o1, I3, e4, ?_⟩⟩
      cases o1 with
      | nx e s => exact fun ft σ H F ss I => ⟨by omega, ft, F, e, s, I, e5, k3.ss ss, ss3.trans ss⟩
      | ct e s => exact fun ft σ H F ss I => ⟨by omega, ft, F, e, s, I, e5, k3.ss ss, ss3.trans ss⟩
      | bk e s => simp at e5; subst e5; exact k3
      | ret d s => simp at e5; subst e5; exact k3
    · left
      have hi' : i = ts.length := by omega
      subst hi'
      rw [List.drop_length] at ev3
      simp [itF] at ev3
      subst ev3
      exact ⟨it.stop H2 (kS ss2 I2.hi) _ (Nat.le_refl _), k2 ft2 σ2 H2 F2 .refl I2⟩

/-! ### several names at once -/
inductive MixOk (K : PySem.W.Frag) (Hs : Hp) (H : Hp) (F : Fz) : List Bool → List D → List V → List Addr → Prop
  | nil : MixOk K Hs H F [] [] [] []
  | sh {bs ts vs os t v} : Rep K H F t v → MixOk K Hs H F bs ts vs os → MixOk K Hs H F (false :: bs) (t :: ts) (v :: vs) os
  | ow {bs ts vs os t p} : Hs p = none → ¬ F p → OwnAt K H F t p → p ∉ os → MixOk K Hs H F bs ts vs os → MixOk K Hs H F (true :: bs) (t :: ts) (.ref p :: vs) (p :: os)
def rdM (K : PySem.W.Frag) (G : Act) (bs : List Bool) (z : ZE) : TA := fun σ H Q => ∃ ft F env st ts st', ZI K G ft σ H F env st ∧ evE z env st = some (.list ts, st') ∧ ∀ vs os H' F', Step ft H F H' F' → ZI K G ft σ H' F' env st' → MixOk K H H' F' bs ts vs os → Q vs H'
def QM (C : Ct) (N : List Str) (sc : Scope) (bs : List Bool) (es : List Expr) (z : ZE) : Prop := ∀ X G, Good C X → X.N = N → X.env.scope = sc → PA X es (rdM X.K G bs z)
theorem qm_nil : QM C N sc [] [] .anil := fun X G g n s => PA.wk pa_nil fun σ H Q ⟨ft, F, env, st, ts, st', I, ev, q⟩ => by
  unfold evE at ev
  cases ev
  exact q [] [] H F .refl I .nil
theorem MixOk.weak {K Hs Hs' H F bs ts vs os} (h : ∀ p, Hs p = none → Hs' p = none) (m : MixOk K Hs H F bs ts vs os) : MixOk K Hs' H F bs ts vs os := by
  induction m with
  | nil => exact .nil
  | sh r _ ih => exact .sh r ih
  | ow e1 e2 e3 e4 _ ih => exact .ow (h _ e1) e2 e3 e4 ih
theorem MixOk.fresh {K Hs H F bs ts vs os} (m : MixOk K Hs H F bs ts vs os) : ∀ p ∈ os, Hs p = none := by
  induction m with
  | nil => intro p h; simp at h
  | sh r _ ih => exact ih
  | ow e1 e2 e3 e4 _ ih => intro p h; simp at h; rcases h with rfl | h; exact e1; exact ih p h
theorem qm_sh {bs : List Bool} (hx : QE C N sc x zx) (hy : QM C N sc bs es zy) (hs : ∀ env : PySem.Env, starEach (x :: es) env = (false, eval x env) :: starEach es env := by intro _; rfl) : QM C N sc (false :: bs) (x :: es) (.acons zx zy) := fun X G g n s =>
  (pa_cons (hx X G g n s) (hy X G g n s) (hs _)).wk fun σ H Q ⟨ft, F, env, st, ts, st', I, ev, q⟩ => by
    obtain ⟨a, st1, l, e1, e2, e3⟩ := acons_ev ev
    cases e3
    refine ⟨ft, F, env, st, a, st1, I, e1, fun v1 H1 F1 s1 I1 r1 => ⟨ft, F1, env, st1, l, st', I1, e2, fun vs os H2 F2 s2 I2 r2 => ?_⟩⟩
    exact q _ os H2 F2 (s1.trans s2) I2 (.sh (s2.rep I1.hi r1) (r2.weak fun p => s1.bk0))
theorem qm_ow {bs : List Bool} (hx : QF C N sc x zx) (hy : QM C N sc bs es zy) (hs : ∀ env : PySem.Env, starEach (x :: es) env = (false, eval x env) :: starEach es env := by intro _; rfl) : QM C N sc (true :: bs) (x :: es) (.acons zx zy) := fun X G g n s =>
  (pa_cons (hx X G g n s) (hy X G g n s) (hs _)).wk fun σ H Q ⟨ft, F, env, st, ts, st', I, ev, q⟩ => by
    obtain ⟨a, st1, l, e1, e2, e3⟩ := acons_ev ev
    cases e3
    refine ⟨ft, F, env, st, a, st1, I, e1, fun p H1 F1 s1 I1 hp np ow => ⟨ft, F1, env, st1, l, st', I1, e2, fun vs os H2 F2 s2 I2 r2 => ?_⟩⟩
    obtain ⟨n1, n2, n3⟩ := I.hi.fresh hp
    exact q _ _ H2 F2 (s1.trans s2) I2 (.ow hp (s2.nf ow.trk np) (s2.own I1.hi n1 ow) (fun m => ow.trk (r2.fresh p m)) (r2.weak fun p => s1.bk0))
def setAll (σ : L2.St) : List Nat → List V → L2.St
  | i :: is, v :: vs => setAll (σ.set i (some v)) is vs
  | _, _ => σ
theorem zi_setMix {K G ft Hs H F st} : ∀ {is : List (Nat × Bool)} {ts : List D} {vs : List V} {os : List Addr} {σ : L2.St} {env env' : Env}, ZI K G ft σ H F env st → (∀ p ∈ os, p ∉ ft ∧ G.H0 p = none) → (∀ p ∈ os, ∀ j, ¬ OwAt env σ j p) →
    MixOk K Hs H F (is.map (·.2)) ts vs os → setMix env is ts = some env' → ZI K G ft (setAll σ (is.map (·.1)) vs) H F env' st
  | [], ts, vs, os, σ, env, env', I, hn, hd, m, e => by
    rw [List.map_nil] at m
    cases m
    cases e
    exact I
  | (i, false) :: is, ts, vs, os, σ, env, env', I, hn, hd, m, e => by
    rw [List.map_cons] at m
    cases m with
    | @sh _ ts vs _ t v r m =>
      have e' : setMix (env.set i (.sh t)) is ts = some env' := e
      show ZI K G ft (setAll (σ.set i (some v)) (is.map (·.1)) vs) H F env' st
      refine zi_setMix (I.setSh r) hn (fun p hp j ho => ?_) m e'
      obtain ⟨⟨u, e1⟩, e2⟩ := ho
      by_cases h : i = j
      · subst h
        have hl := (List.getElem?_eq_some_iff.mp e1).1
        rw [List.getElem?_set_self (by simpa using hl)] at e1
        cases e1
      · rw [List.getElem?_set_ne h] at e1 e2
        exact hd p hp j ⟨⟨u, e1⟩, e2⟩
  | (i, true) :: is, ts, vs, os, σ, env, env', I, hn, hd, m, e => by
    rw [List.map_cons] at m
    cases m with
    | @ow _ ts vs os t p e1 e2 e3 e4 m =>
      have e' : setMix (env.set i (.ow t)) is ts = some env' := e
      show ZI K G ft (setAll (σ.set i (some (.ref p))) (is.map (·.1)) vs) H F env' st
      obtain ⟨n1, n2⟩ := hn p (by simp)
      have I2 := I.setAny (i := i) (s := .ow t) (ov := some (.ref p)) ⟨p, rfl, e2, n1, n2, e3⟩ fun t' q _ eo j hj ho => by
        cases eo
        exact hd p (by simp) j ho
      refine zi_setMix I2 (fun q hq => hn q (by simp [hq])) (fun q hq j ho => ?_) m e'
      obtain ⟨⟨u, e5⟩, e6⟩ := ho
      by_cases h : i = j
      · subst h
        rw [List.getElem?_set_self (by have := (List.getElem?_eq_some_iff.mp e6).1; simpa using this)] at e6
        cases e6
        exact e4 hq
      · rw [List.getElem?_set_ne h] at e5 e6
        exact hd q (by simp [hq]) j ⟨⟨u, e5⟩, e6⟩
theorem rd_mix {K G ft σ H F env st H1 F1 st1 os is ts vs env'} (I : ZI K G ft σ H F env st) (s : Step ft H F H1 F1) (I1 : ZI K G ft σ H1 F1 env st1) (m : MixOk K H H1 F1 (is.map (·.2)) ts vs os) (e : setMix env is ts = some env') :
    ZI K G ft (setAll σ (is.map (·.1)) vs) H1 F1 env' st1 := by
  refine zi_setMix I1 (fun p hp => ?_) (fun p hp j ho => ?_) m e
  · obtain ⟨n1, n2, n3⟩ := I.hi.fresh (m.fresh p hp)
    exact ⟨n1, n2⟩
  · obtain ⟨⟨u, q1⟩, q2⟩ := ho
    obtain ⟨p', e3, _, _, _, ow'⟩ := I.slot j _ q1
    rw [q2] at e3
    cases e3
    exact ow'.trk (m.fresh p hp)
theorem par_ev {n : Nat} {is : List (Nat × Bool)} {env : Env} {st : SD} {o : Out} (h : evS n (.par is z) env st = some o) : ∃ ts st1 env', evE z env st = some (.list ts, st1) ∧ setMix env is ts = some env' ∧ o = .nx env' st1 := by
  unfold evS at h
  obtain ⟨x, e1, h1⟩ := bind_ev h
  obtain ⟨⟨ts, st1⟩, e2, h2⟩ := bind_ev h1
  obtain rfl := list_ev e2
  obtain ⟨env', e3, rfl⟩ := map_ev h2
  exact ⟨ts, st1, env', e1, e3, rfl⟩
theorem mix_len {K Hs H F bs ts vs os} (m : MixOk K Hs H F bs ts vs os) : vs.length = bs.length := by
  induction m with
  | nil => rfl
  | sh _ _ ih => simp [ih]
  | ow _ _ _ _ _ ih => simp [ih]
theorem qs_par2 {xn yn : Str} {px py pt pt2 : Pos} {kt k2 : Nat} {bi bj : Bool} (i j : Nat) (h : QM C N sc [bi, bj] [x, y] z) (hij : i ≠ j := by decide) (hi : N[i]? = some xn := by rfl) (hj : N[j]? = some yn := by rfl) (hx : sc.names.lookup xn = some .local := by rfl) (hy : sc.names.lookup yn = some .local := by rfl)
    (hw : ∀ env : PySem.Env, env.scope = sc → swappedStores [.Tuple [.Name xn px, .Name yn py] kt pt] (.Tuple [x, y] k2 pt2) env = pure (some [xn, yn]) := by intro env h; cases env; cases h; rfl)
    (hs : ∀ env : PySem.Env, env.scope = sc → swapsWithSole [.Tuple [.Name xn px, .Name yn py] kt pt] (.Tuple [x, y] k2 pt2) pos.line env = pure false := by intro env h; cases env; cases h; rfl) :
    QS C N sc (.Assign [.Tuple [.Name xn px, .Name yn py] kt pt] (.Tuple [x, y] k2 pt2) pos) (.par [(i, bi), (j, bj)] z) := fun X G g n e f =>
  (ps_par (i := i) (j := j) g.calm g.nd (by rw [n]; exact hi) (by rw [n]; exact hj) hij (by rw [e]; exact hx) (by rw [e]; exact hy) (h X G g n e) (hw _ e) (hs _ e)).wk fun Dn σ H ⟨ft, F, env, st, m, o, I, ev, k⟩ => by
    obtain ⟨ts, st1, env', e1, e2, rfl⟩ := par_ev ev
    refine ⟨ft, F, env, st, ts, st1, I, e1, fun vs os H1 F1 s1 I1 mx => ?_⟩
    have hl := mix_len mx
    match vs, hl with
    | [v, w], _ => exact ⟨v, w, rfl, k ft _ H1 F1 (s1.ss I.hi) (rd_mix (is := [(i, bi), (j, bj)]) I s1 I1 mx e2)⟩
/-- the same of three names -/
theorem ps_par3 {X : Cx} {i j k : Nat} {x y z : Str} {a b c : Expr} {ta : TA} {px py pz pt : Pos} {kt k2 pt2} (hc : X.calm = true) (hN : X.N.Nodup) (hi : X.N[i]? = some x) (hj : X.N[j]? = some y) (hk : X.N[k]? = some z) (hij : i ≠ j) (hik : i ≠ k) (hjk : j ≠ k)
    (hx : X.env.scope.names.lookup x = some .local) (hy : X.env.scope.names.lookup y = some .local) (hz : X.env.scope.names.lookup z = some .local) (ha : PA X [a, b, c] ta)
    (hw : swappedStores [.Tuple [.Name x px, .Name y py, .Name z pz] kt pt] (.Tuple [a, b, c] k2 pt2) X.env = pure (some [x, y, z]))
    (hs : swapsWithSole [.Tuple [.Name x px, .Name y py, .Name z pz] kt pt] (.Tuple [a, b, c] k2 pt2) pos.line X.env = pure false) :
    PS X (.Assign [.Tuple [.Name x px, .Name y py, .Name z pz] kt pt] (.Tuple [a, b, c] k2 pt2) pos) (fun D σ H => ta σ H fun vs H1 => ∃ u v w, vs = [u, v, w] ∧ D.nx (((σ.set i (some u)).set j (some v)).set k (some w)) H1) := by
  refine ⟨fun pins s σ H D I h => ?_⟩
  rw [exec_Assign_arm]
  refine wpAny_bind (wpAny_standAt ?_)
  rw [hs]
  refine wpAny_bind (wpAny_pure ?_)
  rw [if_neg (by decide)]
  refine wpAny_bind (Tuple_ (thn (ha.run _ pins s σ H _ I h) fun us s1 ⟨vs, H1, I1, r1, q1⟩ => ?_))
  obtain ⟨u, v, w, e1, q1⟩ := q1
  subst e1
  obtain ⟨u1, u2, u3, rfl, ru, rv, rw'⟩ : ∃ u1 u2 u3, us = [u1, u2, u3] ∧ RelV u u1 ∧ RelV v u2 ∧ RelV w u3 := by
    cases r1 with
    | cons p q =>
      cases q with
      | cons p' q' =>
        cases q' with
        | cons p2 q2 =>
          cases q2
          exact ⟨_, _, _, rfl, p, p', p2⟩
  refine wpAny_newObj_type ?_ (by show 3 ≤ sizeLine; decide)
  have I2 : Inv X pins σ H1 { s1 with heap := s1.heap.push { cls := .type "tuple", data := .seq [u1, u2, u3].toArray } } := I1.kept (t' := s1.toks) fun b o e => Heap.get?_push_of_some _ e
  rw [hw]
  refine wpAny_bind (wpAny_pure ?_)
  show wpAny (model X.prog X.w) X.A (do rule "assign.swapped-stores"; let items ← unpackItems (.ref s1.heap.objs.size) 3 none; assignInOrder [fun v => bindName X.env z v, fun v => bindName X.env y v, fun v => bindName X.env x v] items.reverse; pure Flow.next) _ _ _
  refine wpAny_bind (wpAny_rule (wpAny_bind (unpackItems_tuple (items := #[u1, u2, u3]) (I.ok.hd hc) (IsTup.new s1.heap _) fun h' hx' => ?_)))
  have I3 := I2.kept (h' := h') (t' := s1.toks) fun b o e => hx' b o (Nat.ne_of_lt (Heap.lt_size e)) e
  show wpAny _ _ (assignInOrder [fun v => bindName X.env z v, fun v => bindName X.env y v, fun v => bindName X.env x v] [u3, u2, u1] >>= fun _ => pure Flow.next) _ _ _
  refine wpAny_bind (assignInOrder_cons (wpAny_bindName (store_ok I3 hN hk (.inl hz) rw' (fun s2 I4 => ?_) (.inr hz))))
  refine assignInOrder_cons (wpAny_bindName (store_ok I4 hN hj (.inl hy) rv (fun s3 I5 => ?_) (.inr hy)))
  refine assignInOrder_cons (wpAny_bindName (store_ok I5 hN hi (.inl hx) ru (fun s4 I6 => assignInOrder_nil (wpAny_pure ?_)) (.inr hx)))
  have ee : ((σ.set k (some w)).set j (some v)).set i (some u) = ((σ.set i (some u)).set j (some v)).set k (some w) := by
    rw [List.set_comm _ _ (Ne.symm hjk), List.set_comm _ _ (Ne.symm hik), List.set_comm _ _ (Ne.symm hij)]
  rw [ee] at I6
  exact ⟨_, H1, I6, q1⟩
theorem qs_par3 {xn yn zn : Str} {px py pz pt pt2 : Pos} {kt k2 : Nat} {bi bj bk : Bool} (i j k : Nat) (h : QM C N sc [bi, bj, bk] [x, y, w] z) (hij : i ≠ j := by decide) (hik : i ≠ k := by decide) (hjk : j ≠ k := by decide) (hi : N[i]? = some xn := by rfl) (hj : N[j]? = some yn := by rfl) (hk : N[k]? = some zn := by rfl)
    (hx : sc.names.lookup xn = some .local := by rfl) (hy : sc.names.lookup yn = some .local := by rfl) (hz : sc.names.lookup zn = some .local := by rfl)
    (hw : ∀ env : PySem.Env, env.scope = sc → swappedStores [.Tuple [.Name xn px, .Name yn py, .Name zn pz] kt pt] (.Tuple [x, y, w] k2 pt2) env = pure (some [xn, yn, zn]) := by intro env h; cases env; cases h; rfl)
    (hs : ∀ env : PySem.Env, env.scope = sc → swapsWithSole [.Tuple [.Name xn px, .Name yn py, .Name zn pz] kt pt] (.Tuple [x, y, w] k2 pt2) pos.line env = pure false := by intro env h; cases env; cases h; rfl) :
    QS C N sc (.Assign [.Tuple [.Name xn px, .Name yn py, .Name zn pz] kt pt] (.Tuple [x, y, w] k2 pt2) pos) (.par [(i, bi), (j, bj), (k, bk)] z) := fun X G g n e f =>
  (ps_par3 (i := i) (j := j) (k := k) g.calm g.nd (by rw [n]; exact hi) (by rw [n]; exact hj) (by rw [n]; exact hk) hij hik hjk (by rw [e]; exact hx) (by rw [e]; exact hy) (by rw [e]; exact hz) (h X G g n e) (hw _ e) (hs _ e)).wk fun Dn σ H ⟨ft, F, env, st, m, o, I, ev, kk⟩ => by
    obtain ⟨ts, st1, env', e1, e2, rfl⟩ := par_ev ev
    refine ⟨ft, F, env, st, ts, st1, I, e1, fun vs os H1 F1 s1 I1 mx => ?_⟩
    have hl := mix_len mx
    match vs, hl with
    | [u, v, w], _ => exact ⟨u, v, w, rfl, kk ft _ H1 F1 (s1.ss I.hi) (rd_mix (is := [(i, bi), (j, bj), (k, bk)]) I s1 I1 mx e2)⟩
def gNames : List Nat → TGs
  | [] => gNil
  | i :: is => gCons (gName i) (gNames is)
theorem gNames_ok : ∀ {is : List Nat} {vs : List V} {σ : L2.St} {H : Hp} {Q : L2.St → Hp → Prop}, vs.length = is.length → Q (setAll σ is vs) H → gNames is vs σ H Q
  | [], [], _, _, _, _, h => ⟨rfl, h⟩
  | i :: is, v :: vs, _, _, _, hl, h => ⟨v, vs, rfl, gNames_ok (by simpa using hl) h⟩
def QGn (C : Ct) (N : List Str) (sc : Scope) (es : List Expr) (is : List Nat) : Prop := ∀ X, Good C X → X.N = N → X.env.scope = sc → X.fn = (fun _ => true) → PGs X es (gNames is)
theorem qgn_nil : QGn C N sc [] [] := fun X g n s f => pgs_nil
theorem qgn_cons {is : List Nat} (i : Nat) {nm : Str} {p : Pos} (h2 : QGn C N sc es is) (hN : N[i]? = some nm := by rfl) (hx : Loc sc nm := by first | exact Or.inl rfl | exact Or.inr rfl)
    (hs : ∀ env : PySem.Env, (assignEach (.Name nm p :: es) env).map (·.2) = assign (.Name nm p) env :: (assignEach es env).map (·.2) := by intro _; rfl) : QGn C N sc (.Name nm p :: es) (i :: is) := fun X g n s f =>
  pgs_cons (pg_name (i := i) g.nd (by rw [n]; exact hN) (by rw [s]; exact hx) (by rw [f]; exact .inl rfl)) (h2 X g n s f) (hs _)
theorem qs_parT {elts vals : List Expr} {kk k2 : Nat} {p p2 : Pos} (is : List (Nat × Bool)) (h : QM C N sc (is.map (·.2)) vals z) (hg : QGn C N sc elts (is.map (·.1)))
    (hn : ∀ env : PySem.Env, (assignEach elts env).length = is.length := by intro _; rfl) (hst : ∀ env : PySem.Env, (assignEach elts env).findIdx? (·.1) = none := by intro _; rfl)
    (hs : ∀ env : PySem.Env, env.scope = sc → swapsWithSole [.Tuple elts kk p] (.Tuple vals k2 p2) pos.line env = pure false := by intro env h; cases env; cases h; rfl) (hw : ∀ env : PySem.Env, env.scope = sc → swappedStores [.Tuple elts kk p] (.Tuple vals k2 p2) env = pure none := by intro env h; cases env; cases h; rfl)
    (h1 : ∀ env : PySem.Env, (assignEach [.Tuple elts kk p] env).map (·.2) = [assign (.Tuple elts kk p) env] := by intro _; rfl) (hl : is.length ≤ 1000 := by decide) : QS C N sc (.Assign [.Tuple elts kk p] (.Tuple vals k2 p2) pos) (.par is z) := fun X G g n e f =>
  (ps_asg (pe_tup (h X G g n e)) (pg_tup g.calm (hg X g n e f) (hn _) (hst _)) (hs _ e) (hw _ e) (h1 _)).wk fun Dn σ H ⟨ft, F, env, st, m, o, I, ev, k⟩ => by
    obtain ⟨ts, st1, env', e1, e2, rfl⟩ := par_ev ev
    refine ⟨ft, F, env, st, ts, st1, I, e1, fun vs os H1 F1 s1 I1 mx => ?_⟩
    have hv := mix_len mx
    rw [List.length_map] at hv
    refine ⟨by rw [hv, sl_eq]; omega, fun p hp => ⟨p, vs, rfl, .inl (.inl upd_same), hv, gNames_ok (by rw [hv, List.length_map]) ?_⟩⟩
    have gr : Grow H1 F1 (upd H1 p (.tup vs)) F1 := Grow.own I1.hi hp
    have I2 := (rd_mix I s1 I1 mx e2).grow gr
    exact k ft _ _ F1 ((s1.ss I.hi).trans gr.ss) I2
end Z
namespace Z
open PySem PySem.Spec PyProof.Rows L2
variable {C : Ct} {N : List Str} {sc : Scope} {x y w : Expr} {z zx zy zw zc ze : ZE} {pos : Pos} {es : List Expr} {M : Md} {tg tr : Tg} {s : Stmt} {ss : List Stmt} {q q1 q2 : ZS}

/-! ### owned lists and dicts written -/
def dApp : D → D → Option D
  | .list ts, t => if ts.length < 16777216 then some (.list (ts ++ [t])) else none
  | _, _ => none
def dSetL : D → D → D → Option D
  | .list ts, .int k, t => (ixN ts.length k).map fun j => .list (ts.set j t)
  | _, _, _ => none
def dPop : D → Option (D × D)
  | .list ts => ts[ts.length - 1]?.map fun t => (t, .list ts.dropLast)
  | _ => none
theorem OwnAt.list {K H F ts p} (h : OwnAt K H F (.list ts) p) : ∃ xs, H p = some (.lst xs) ∧ RepL K H F ts xs := h
theorem dApp_ev {t d r : D} (h : dApp t d = some r) : ∃ ts, t = .list ts ∧ ts.length < 16777216 ∧ r = .list (ts ++ [d]) := by
  cases t <;> simp [dApp] at h
  exact ⟨_, rfl, h.1, h.2.symm⟩
theorem dSetL_ev {t k d r : D} (h : dSetL t k d = some r) : ∃ ts i j, t = .list ts ∧ k = .int i ∧ ixN ts.length i = some j ∧ r = .list (ts.set j d) := by
  cases t <;> cases k <;> simp [dSetL] at h
  obtain ⟨j, e, h⟩ := h
  exact ⟨_, _, j, rfl, rfl, e, h.symm⟩
theorem dPop_ev {t : D} {r : D × D} (h : dPop t = some r) : ∃ ts u, t = .list ts ∧ ts[ts.length - 1]? = some u ∧ r = (u, .list ts.dropLast) := by
  cases t <;> simp [dPop] at h
  obtain ⟨u, e, h⟩ := h
  exact ⟨_, u, rfl, e, h.symm⟩
/-- a state with the owned object of slot i written -/
theorem mut_ok {K G ft σ H F env st i t t' p o} (I : ZI K G ft σ H F env st) (e1 : env[i]? = some (.ow t)) (e2 : σ[i]? = some (some (.ref p))) (hp : OwnAt K (upd H p o) F t' p) :
    SS H F (upd H p o) F ∧ ZI K G ft σ (upd H p o) F (env.set i (.ow t')) st := by
  obtain ⟨p', e3, n1, n2, n3, ow⟩ := I.slot i _ e1
  rw [e2] at e3
  cases e3
  exact ⟨⟨keepW n1, fun _ h => h⟩, I.mut e1 e2 hp⟩
theorem mut_ev {n i : Nat} {f : D → D → Option D} {env : Env} {st : SD} {o : Out} (h : evS n (.mut i f z) env st = some o) : ∃ d st1 t r, evE z env st = some (d, st1) ∧ env[i]? = some (.ow t) ∧ f t d = some r ∧ o = .nx (env.set i (.ow r)) st1 := by
  unfold evS at h
  obtain ⟨⟨d, st1⟩, e1, h1⟩ := bind_ev h
  split at h1
  · rename_i t e2
    obtain ⟨r, e3, rfl⟩ := map_ev h1
    exact ⟨d, st1, t, r, e1, e2, e3, rfl⟩
  · cases h1
/-- xs.append(e) -/
theorem qs_app {nm : Str} {p apos cpos : Pos} (i : Nat) (h : QE C N sc x z) (hN : N[i]? = some nm := by rfl) (hv : Vis sc nm := by first | exact Or.inl rfl | exact Or.inr (Or.inl rfl) | exact Or.inr (Or.inr rfl)) (hd : (nm == ("__debug__" : Str)) = false := by decide)
    (hcd : (nm == ("__classdict__" : Str)) = false := by decide)
    (hbase : ∀ env : PySem.Env, attributeBase (.Name nm p) "append" env (eval (.Name nm p) env) = eval (.Name nm p) env := by intro _; rfl)
    (hfew : ∀ env : PySem.Env, ((backTo cpos (starEach [x] env)).all (fun x => !x.1) && (backToKw cpos (keywordEach [] env)).all (fun x => x.1.isSome)
      && decide (([x] : List Expr).length + ([] : List Keyword).length + (if ([] : List Keyword).isEmpty then 0 else 1) < 30)) = true := by intro _; rfl)
    (hline : (apos.endLine == cpos.line) = true := by rfl) (hs : ∀ env : PySem.Env, starEach [x] env = (false, eval x env) :: starEach [] env := by intro _; rfl)
    (hplain : ∀ env : PySem.Env, (backTo cpos (starEach [] env)).any (·.1) = false := by intro _; rfl)
    (hsw : ∀ env : PySem.Env, env.scope = sc → swapsWith (.Call (.Attribute (.Name nm p) "append" apos) [x] [] cpos) none pos.line env = pure false := by intro env h; cases env; cases h; rfl) :
    QS C N sc (.Expr (.Call (.Attribute (.Name nm p) "append" apos) [x] [] cpos) pos) (.mut i dApp z) := fun X G g n e f =>
  (ps_expr (pe_bm PySem.F.plainAttrs_list PySem.F.slot_list_append PySem.F.type_list_append mt_append (pe_var (i := i) (by rw [n]; exact hN) (by rw [e]; exact hv) hd hcd) (pa_cons (h X G g n e) pa_nil (hs _)) (hbase _) (hfew _) hline (hs _) (hplain _)) (hsw _ e)).wk fun Dn σ H ⟨ft, F, env, st, m, o, I, ev, k⟩ => by
    obtain ⟨d, st1, t, r, e1, e2, e3, rfl⟩ := mut_ev ev
    obtain ⟨ts, rfl, hlt, rfl⟩ := dApp_ev e3
    · · obtain ⟨p', e4, n1, n2, n3, xs, hx, rl⟩ := I.slot i _ e2
        refine ⟨.ref p', e4, .inl ⟨rfl, xs, SqL.of hx⟩, ft, F, env, st, d, st1, I, e1, fun v H1 F1 s1 I1 r1 => ?_⟩
        obtain ⟨p2, e5, m1, m2, m3, ys, hy, rl1⟩ := I1.slot i _ e2
        rw [e4] at e5
        cases e5
        obtain ⟨ss, I2⟩ := mut_ok (t' := .list (ts ++ [d])) (o := .lst (ys ++ [v])) I1 e2 e4 ⟨_, upd_same, RepL.keep (keepW m1) (fun _ h => h) _ (rl1.append (RepL.cons r1 RepL.nil))⟩
        exact ⟨p', ys, v, rfl, rfl, hy, by rw [sl_eq, rl1.length]; exact hlt, k ft _ _ F1 ((s1.ss I.hi).trans ss) I2⟩
theorem seti_ev {n i : Nat} {f : D → D → D → Option D} {env : Env} {st : SD} {o : Out} (h : evS n (.seti i f zx zy) env st = some o) : ∃ d st1 k st2 t r, evE zx env st = some (d, st1) ∧ evE zy env st1 = some (k, st2) ∧ env[i]? = some (.ow t) ∧ f t k d = some r ∧ o = .nx (env.set i (.ow r)) st2 := by
  unfold evS at h
  obtain ⟨⟨d, st1⟩, e1, h1⟩ := bind_ev h
  obtain ⟨⟨k, st2⟩, e4, h2⟩ := bind_ev h1
  split at h2
  · rename_i t e2
    obtain ⟨r, e3, rfl⟩ := map_ev h2
    exact ⟨d, st1, k, st2, t, r, e1, e4, e2, e3, rfl⟩
  · cases h2
/-- xs[k] = e of a list -/
theorem qs_setL {nm : Str} {p tp : Pos} (i : Nat) (h : QE C N sc x zx) (hk : QE C N sc y zy) (hN : N[i]? = some nm := by rfl) (hv : Vis sc nm := by first | exact Or.inl rfl | exact Or.inr (Or.inl rfl) | exact Or.inr (Or.inr rfl)) (hd : (nm == ("__debug__" : Str)) = false := by decide)
    (hcd : (nm == ("__classdict__" : Str)) = false := by decide)
    (ha : ∀ (env : PySem.Env) v, assign (.Subscript (.Name nm p) y tp) env v = (do
      let ov ← holding [v] (eval (.Name nm p) env)
      let iv ← holding [v, ov] (eval y env)
      standAt tp
      holding [v, ov, iv] (setItem ov iv v)
      release [v, ov, iv] []) := by intro _ _; rfl)
    (hs : ∀ env : PySem.Env, env.scope = sc → swapsWithSole [.Subscript (.Name nm p) y tp] x pos.line env = pure false := by intro env h; cases env; cases h; rfl) (hw : ∀ env : PySem.Env, env.scope = sc → swappedStores [.Subscript (.Name nm p) y tp] x env = pure none := by intro env h; cases env; cases h; rfl)
    (h1 : ∀ env : PySem.Env, (assignEach [.Subscript (.Name nm p) y tp] env).map (·.2) = [assign (.Subscript (.Name nm p) y tp) env] := by intro _; rfl) : QS C N sc (.Assign [.Subscript (.Name nm p) y tp] x pos) (.seti i dSetL zx zy) := fun X G g n e f =>
  (ps_asg (h X G g n e) (pg_sub (pe_var (i := i) (by rw [n]; exact hN) (by rw [e]; exact hv) hd hcd) (hk X G g n e) set_list (ha _)) (hs _ e) (hw _ e) (h1 _)).wk fun Dn σ H ⟨ft, F, env, st, m, o, I, ev, k⟩ => by
    obtain ⟨d, st1, kd, st2, t, r, e1, e4, e2, e3, rfl⟩ := seti_ev ev
    obtain ⟨ts, ki, j, rfl, rfl, e6, rfl⟩ := dSetL_ev e3
    · refine ⟨ft, F, env, st, d, st1, I, e1, fun v H1 F1 s1 I1 r1 => ?_⟩
      obtain ⟨p', e5, m1, m2, m3, ys, hy, rl1⟩ := I1.slot i _ e2
      refine ⟨.ref p', e5, ft, F1, env, st1, .int ki, st2, I1, e4, fun kv H2 F2 s2 I2 r2 => ?_⟩
      unfold Rep at r2
      subst r2
      obtain ⟨p2, e7, n1, n2, n3, zs, hz, rl2⟩ := I2.slot i _ e2
      rw [e5] at e7
      cases e7
      obtain ⟨ss, I3⟩ := mut_ok (t' := .list (ts.set j d)) (o := .lst (zs.set j v)) I2 e2 e5 ⟨_, upd_same, RepL.keep (keepW n1) (fun _ h => h) _ (RepL.set (s2.rep I1.hi r1) j rl2)⟩
      exact ⟨p', zs, ki, j, rfl, rfl, hz, by rw [rl2.length]; exact e6, k ft _ _ F2 (((s1.ss I.hi).trans (s2.ss I1.hi)).trans ss) I3⟩

/-- tg = xs.pop() -/
theorem pop_ev {n i : Nat} {f : D → Option (D × D)} {env : Env} {st : SD} {o : Out} (h : evS n (.pop tg i f) env st = some o) : ∃ t r env', env[i]? = some (.ow t) ∧ f t = some r ∧ setT tg r.1 (env.set i (.ow r.2)) = some env' ∧ o = .nx env' st := by
  unfold evS at h
  split at h
  · rename_i t e2
    obtain ⟨r, e1, h1⟩ := bind_ev h
    obtain ⟨env', e3, rfl⟩ := map_ev h1
    exact ⟨t, r, env', e2, e1, e3, rfl⟩
  · cases h
theorem RepL.dropLast {K H F} : ∀ {ts : List D} {xs : List V}, RepL K H F ts xs → RepL K H F ts.dropLast xs.dropLast := fun {ts xs} h => by
  rw [List.dropLast_eq_take, List.dropLast_eq_take, h.length]
  exact h.take _
theorem qs_pop {nm : Str} {tgx : Expr} {p apos cpos : Pos} (i : Nat) (hg : QG C N sc (fun _ => true) tgx tg) (hN : N[i]? = some nm := by rfl) (hv : Vis sc nm := by first | exact Or.inl rfl | exact Or.inr (Or.inl rfl) | exact Or.inr (Or.inr rfl)) (hd : (nm == ("__debug__" : Str)) = false := by decide)
    (hcd : (nm == ("__classdict__" : Str)) = false := by decide)
    (hbase : ∀ env : PySem.Env, attributeBase (.Name nm p) "pop" env (eval (.Name nm p) env) = eval (.Name nm p) env := by intro _; rfl)
    (hline : (apos.endLine == cpos.line) = true := by rfl)
    (hs : ∀ env : PySem.Env, env.scope = sc → swapsWithSole [tgx] (.Call (.Attribute (.Name nm p) "pop" apos) [] [] cpos) pos.line env = pure false := by intro env h; cases env; cases h; rfl) (hw : ∀ env : PySem.Env, env.scope = sc → swappedStores [tgx] (.Call (.Attribute (.Name nm p) "pop" apos) [] [] cpos) env = pure none := by intro env h; cases env; cases h; rfl)
    (h1 : ∀ env : PySem.Env, (assignEach [tgx] env).map (·.2) = [assign tgx env] := by intro _; rfl) :
    QS C N sc (.Assign [tgx] (.Call (.Attribute (.Name nm p) "pop" apos) [] [] cpos) pos) (.pop tg i dPop) := fun X G g n e f =>
  (ps_asg (pe_bm0 PySem.F.plainAttrs_list PySem.F.slot_list_pop PySem.F.type_list_pop mt_pop (pe_var (i := i) (by rw [n]; exact hN) (by rw [e]; exact hv) hd hcd) (hbase _) hline) (hg X G g n e f) (hs _ e) (hw _ e) (h1 _)).wk fun Dn σ H ⟨ft, F, env, st, m, o, I, ev, k⟩ => by
    obtain ⟨t, r, env', e2, e3, e4, rfl⟩ := pop_ev ev
    obtain ⟨ts, u, rfl, hu, rfl⟩ := dPop_ev e3
    obtain ⟨p', e5, m1, m2, m3, ys, hy, rl1⟩ := I.slot i _ e2
    obtain ⟨yv, ey, ry⟩ := rl1.get hu
    refine ⟨.ref p', e5, .inl ⟨rfl, ys, SqL.of hy⟩, p', ys, yv, rfl, rfl, hy, by rw [rl1.length]; exact ey, ?_⟩
    obtain ⟨ss, I3⟩ := mut_ok (t' := .list ts.dropLast) (o := .lst ys.dropLast) I e2 e5 ⟨_, upd_same, RepL.keep (keepW m1) (fun _ h => h) _ rl1.dropLast⟩
    exact ⟨ft, F, _, st, u, env', I3, Rep.keep (keepW m1) (fun _ h => h) _ ry, e4, fun σ' I4 _ => k ft σ' _ F ss I4⟩

/-! ### the state -/
theorem ZI.setSt {K G ft ft' σ H H' F env st t v} (I : ZI K G ft σ H F env st) (hi : HI G ft' H' F) (sm : Same H H') (r : StRep H' t v ft') (sub : ∀ p, p ∉ ft' ∨ H p = none) (h0 : ft = []) (i : Nat) : ZI K G ft' (σ.set i (some v)) H' F (env.set i .st) (some t) := by
  subst h0
  have hst : st = none := I.sto.iff.mpr rfl
  subst hst
  have base : ZI K G ft' σ H' F env (some t) := by
    refine ⟨hi, I.len, fun j u e => ?_, I.dis, ⟨v, r⟩⟩
    have q := I.slot j u e
    cases u with
    | no => trivial
    | sh t => obtain ⟨v, e1, rp⟩ := q; exact ⟨v, e1, Rep.keep (fun a o _ e => sm a o e) (fun _ h => h) _ rp⟩
    | br t =>
      obtain ⟨v, e1, rp⟩ := q
      refine ⟨v, e1, rp.keep (fun a o _ e => sm a o e) (fun a h => ⟨h.1, fun z => ?_⟩) (fun a o _ e => sm a o e) fun _ h => h⟩
      rcases sub a with q | q
      · exact q z
      · cases e0 : G.H0 a with
        | none => exact h.1 e0
        | some o => rw [I.hi.keep a o e0 (by simp)] at q; cases q
    | ow u =>
      obtain ⟨p, e1, n1, n2, n3, ow⟩ := q
      have hpt := ow.trk
      refine ⟨p, e1, n1, (sub p).elim id fun q => absurd q hpt, n3, ?_⟩
      cases u with
      | list ts => obtain ⟨xs, q1, q2⟩ := ow; exact ⟨xs, sm _ _ q1, RepL.keep (fun a o _ e => sm a o e) (fun _ h => h) _ q2⟩
      | dict ts => obtain ⟨xs, q1, q2⟩ := ow; exact ⟨xs, sm _ _ q1, RepD.keep (fun a o _ e => sm a o e) (fun _ h => h) _ q2⟩
      | _ => exact ow.elim
    | st => obtain ⟨v, t, e1, e2, _⟩ := q; cases e2
  exact base.setAny (s := .st) (ov := some v) ⟨v, t, rfl, rfl, r⟩ fun t' p e => by cases e
theorem HI.st {G H H' F ft'} (h : HI G [] H F) (sm : Same H H') (nw : ∀ p ∈ ft', H p = none) (tr : ∀ p ∈ ft', H' p ≠ none) (g0 : G.ft0 = []) : HI G ft' H' F where
  trk := fun a f => by
    cases e : H a with
    | none => exact absurd e (h.trk a f)
    | some o => rw [sm a o e]; simp
  nft := fun a f z => h.trk a f (nw a z)
  keep := fun a o e n => sm a o (h.keep a o e (by simp))
  there := fun a n => by
    cases e : H a with
    | none => exact absurd e (h.there a n)
    | some o => rw [sm a o e]; simp
  old := h.old
  new := h.new
  ftk := tr
  pf := fun n => absurd g0 n
  fn := fun _ a z => by
    cases e : G.H0 a with
    | none => rfl
    | some o => exact absurd (nw a z) (h.there a (by simp [e]))
/-- state = maker(..) -/
theorem qs_asgM {nm fnm : Str} {p fp cpos : Pos} {f : List D → Option D} (i : Nat) (hT : ⟨fnm, .mk f⟩ ∈ C.fes) (ha : QA C N sc Mr (x :: es) z) (hg : sc.names.lookup fnm = some .globalImplicit := by rfl) (hN : N[i]? = some nm := by rfl) (hx : Loc sc nm := by first | exact Or.inl rfl | exact Or.inr rfl)
    (hdb : (fnm == ("__debug__" : Str)) = false := by decide) (he : ∀ env : PySem.Env, starEach (x :: es) env = (false, eval x env) :: starEach es env := by intro _; rfl) (hpl : ∀ env : PySem.Env, (backTo cpos (starEach es env)).any (·.1) = false := by intro _; rfl)
    (hs : ∀ env : PySem.Env, env.scope = sc → swapsWith (.Call (.Name fnm fp) (x :: es) [] cpos) (some (.Name nm p)) pos.line env = pure false := by intro env h; cases env; cases h; rfl) :
    QS C N sc (.Assign [.Name nm p] (.Call (.Name fnm fp) (x :: es) [] cpos) pos) (.asgM i f z) := fun X G g n e fe => by
  obtain ⟨k, fa, fd, ps, ok, hr, hm, hk, hb⟩ := g.tab _ hT
  refine (ps_set (i := i) g.nd (by rw [n]; exact hN) (by rw [e]; exact hx) (pe_call (E := E0) ok hr (gl_of e hg) hm hk hb .nil pass0 (ha X G g n e) hdb (he _) (hpl _)) (hs _ e) (by rw [fe]; exact .inl rfl)).wk fun Dn σ H ⟨ft, F, env, st, m, o, I, ev, k⟩ => ?_
  unfold evS at ev
  obtain ⟨x, e1, ev1⟩ := bind_ev ev
  obtain ⟨⟨ts, st1⟩, e2, ev2⟩ := bind_ev ev1
  obtain rfl := list_ev e2
  cases st1 with
  | some t => simp at ev2
  | none =>
    obtain ⟨t, e3, rfl⟩ := map_ev ev2
    refine ⟨ft, F, env, st, ts, none, I, e1, fun vs H1 F1 s1 I1 r1 => ?_⟩
    show spOf X.K (.mk f) (vs ++ []) H1 _ E0
    rw [List.append_nil]
    have hft : ft = [] := I1.sto.iff.mp rfl
    subst hft
    refine ⟨F1, ts, t, I1.hi.hl, Paired.mp (fun _ _ h => RR.nil h) r1, e3, fun v H' ft' sm sr nw => ?_⟩
    have g0 : G.ft0 = [] := by
      by_cases h : G.ft0 = []
      · exact h
      · exact (I1.hi.pf h).symm
    exact k ft' _ H' F1 ((s1.ss I.hi).trans ⟨fun a o _ e => sm a o e, fun _ h => h⟩) (I1.setSt (I1.hi.st sm nw sr.trk g0) sm sr (fun p => by
      by_cases h : p ∈ ft'
      · exact .inr (nw p h)
      · exact .inl h) rfl i)
/-- state = [a, b] -/
theorem qs_asgL {nm : Str} {p : Pos} (i : Nat) (h : QF C N sc x z) (hN : N[i]? = some nm := by rfl) (hx : Loc sc nm := by first | exact Or.inl rfl | exact Or.inr rfl)
    (hs : ∀ env : PySem.Env, env.scope = sc → swapsWith x (some (.Name nm p)) pos.line env = pure false := by intro env h; cases env; cases h; rfl) : QS C N sc (.Assign [.Name nm p] x pos) (.asgL i z) := fun X G g n e f =>
  (ps_set (i := i) g.nd (by rw [n]; exact hN) (by rw [e]; exact hx) (h X G g n e) (hs _ e) (by rw [f]; exact .inl rfl)).wk fun Dn σ H ⟨ft, F, env, st, m, o, I, ev, k⟩ => by
    unfold evS at ev
    obtain ⟨⟨d, st'⟩, e1, ev1⟩ := bind_ev ev
    refine ⟨ft, F, env, st, d, st', I, e1, fun p H' F' s I' hp np ow => ?_⟩
    split at ev1
    · rename_i a b h1 h2
      have h1' : st' = none := h1
      have h2' : d = .list [.int a, .int b] := h2
      subst h1' h2'
      cases ev1
      have hft : ft = [] := I'.sto.iff.mp rfl
      subst hft
      obtain ⟨xs, hx, rl⟩ := ow
      have hxs : xs = [.int a, .int b] := RepL.ints (ns := [a, b]) rl
      subst hxs
      obtain ⟨n1, n2, n3⟩ := I.hi.fresh hp
      have g0 : G.ft0 = [] := by
        by_cases h : G.ft0 = []
        · exact h
        · exact (I'.hi.pf h).symm
      have hi' : HI G [p] H' F' := { I'.hi with
        nft := fun a f z => by simp at z; rw [z] at f; exact np f
        keep := fun a o e n => I'.hi.keep a o e (by simp)
        ftk := fun a z => by simp at z; rw [z]; simp [hx]
        pf := fun n => absurd g0 n
        fn := fun _ a z => by simp at z; rw [z]; exact n2 }
      -- the slots over [p]
      have base : ZI X.K G [p] (σ.set i (some (.ref p))) H' F' (env.set i .st) (some (.list [.int a, .int b])) := by
        have r : StRep H' (.list [.int a, .int b]) (.ref p) [p] := .one a b hx
        have b0 : ZI X.K G [p] σ H' F' env (some (.list [.int a, .int b])) := by
          refine ⟨hi', I'.len, fun j u e => ?_, I'.dis, ⟨_, r⟩⟩
          have q := I'.slot j u e
          cases u with
          | no => trivial
          | sh t => exact q
          | br t =>
            obtain ⟨v, e1, rp⟩ := q
            refine ⟨v, e1, rp.mono fun a h => ⟨h.1, fun z => ?_⟩⟩
            simp at z
            rw [z] at h
            exact h.1 n2
          | ow u =>
            obtain ⟨p', e1, n1, _, n3, ow⟩ := q
            refine ⟨p', e1, n1, fun z => ?_, n3, ow⟩
            simp at z
            subst z
            obtain ⟨p2, e2, _, _, _, ow2⟩ := I.slot j _ e
            rw [e1] at e2
            cases e2
            exact ow2.trk hp
          | st => obtain ⟨v, t, e1, e2, _⟩ := q; cases e2
        exact b0.setAny (s := .st) (ov := some (.ref p)) ⟨_, _, rfl, rfl, r⟩ fun t' p e => by cases e
      exact k [p] _ H' F' (s.ss I.hi) base
    · cases ev1
/-- state[j], written j -/
theorem sget_ev {i j : Nat} {env : Env} {st st' : SD} {r : D} (h : evE (.sget i j) env st = some (r, st')) : env[i]? = some .st ∧ ∃ t, st = some t ∧ dItem t j = some r ∧ st' = st := by
  unfold evE at h
  split at h
  · rename_i e
    refine ⟨e, ?_⟩
    obtain ⟨r', e1, h1⟩ := map_ev h
    obtain ⟨t, rfl, e2⟩ := bind_ev e1
    cases h1
    exact ⟨t, rfl, e2, rfl⟩
  · cases h
theorem qe_sget (i : Nat) (j : Int) {nm : Str} {p kp : Pos} {kk} (hN : N[i]? = some nm := by rfl) (hv : Vis sc nm := by first | exact Or.inl rfl | exact Or.inr (Or.inl rfl) | exact Or.inr (Or.inr rfl)) (hd : (nm == ("__debug__" : Str)) = false := by decide)
    (hcd : (nm == ("__classdict__" : Str)) = false := by decide) (hj : j = 0 ∨ j = 1 := by first | exact Or.inl rfl | exact Or.inr rfl) : QE C N sc (.Subscript (.Name nm p) (.Constant (.int j) kk kp) pos) (.sget i j.toNat) := fun X G g n s =>
  (pe_ix ix_list (pe_var (i := i) (by rw [n]; exact hN) (by rw [s]; exact hv) hd hcd) pe_int (fun _ _ => rfl)).wk fun σ H Q ⟨ft, F, env, st, r, st', I, ev, q⟩ => by
    obtain ⟨e0, t, rfl, e1, rfl⟩ := sget_ev ev
    obtain ⟨v, t', es, et, sr⟩ := I.slot i _ e0
    cases et
    refine ⟨v, es, ?_⟩
    cases sr with
    | two ns s h1 h2 hne => simp [dItem] at e1
    | one a b h1 =>
      rename_i p'
      refine ⟨p', [.int a, .int b], j, ?_⟩
      rcases hj with rfl | rfl
      · simp [dItem] at e1
        subst e1
        exact ⟨.int a, rfl, rfl, SqL.of h1, rfl, q _ H F .refl I rep_int⟩
      · simp [dItem] at e1
        subst e1
        exact ⟨.int b, rfl, rfl, SqL.of h1, rfl, q _ H F .refl I rep_int⟩
theorem sset_ev {n i j : Nat} {env : Env} {st : SD} {o : Out} (h : evS n (.sset i j z) env st = some o) : ∃ d t r, evE z env st = some (d, some t) ∧ env[i]? = some .st ∧ dItemSet t j d = some r ∧ o = .nx env (some r) := by
  unfold evS at h
  obtain ⟨⟨d, st1⟩, e1, h1⟩ := bind_ev h
  split at h1
  · rename_i e2
    obtain ⟨r, e3, rfl⟩ := map_ev h1
    obtain ⟨t, e4, e5⟩ := bind_ev e3
    have e4' : st1 = some t := e4
    subst e4'
    exact ⟨d, t, r, e1, e2, e5, rfl⟩
  · cases h1
theorem qs_sset (i : Nat) (j : Int) {nm : Str} {p kp tp : Pos} {kk} (h : QE C N sc x z) (hN : N[i]? = some nm := by rfl) (hv : Vis sc nm := by first | exact Or.inl rfl | exact Or.inr (Or.inl rfl) | exact Or.inr (Or.inr rfl)) (hd : (nm == ("__debug__" : Str)) = false := by decide)
    (hcd : (nm == ("__classdict__" : Str)) = false := by decide) (hj : j = 0 ∨ j = 1 := by first | exact Or.inl rfl | exact Or.inr rfl)
    (ha : ∀ (env : PySem.Env) v, assign (.Subscript (.Name nm p) (.Constant (.int j) kk kp) tp) env v = (do
      let ov ← holding [v] (eval (.Name nm p) env)
      let iv ← holding [v, ov] (eval (.Constant (.int j) kk kp) env)
      standAt tp
      holding [v, ov, iv] (setItem ov iv v)
      release [v, ov, iv] []) := by intro _ _; rfl)
    (hs : ∀ env : PySem.Env, env.scope = sc → swapsWithSole [.Subscript (.Name nm p) (.Constant (.int j) kk kp) tp] x pos.line env = pure false := by intro env h; cases env; cases h; rfl) (hw : ∀ env : PySem.Env, env.scope = sc → swappedStores [.Subscript (.Name nm p) (.Constant (.int j) kk kp) tp] x env = pure none := by intro env h; cases env; cases h; rfl)
    (h1 : ∀ env : PySem.Env, (assignEach [.Subscript (.Name nm p) (.Constant (.int j) kk kp) tp] env).map (·.2) = [assign (.Subscript (.Name nm p) (.Constant (.int j) kk kp) tp) env] := by intro _; rfl) :
    QS C N sc (.Assign [.Subscript (.Name nm p) (.Constant (.int j) kk kp) tp] x pos) (.sset i j.toNat z) := fun X G g n e f =>
  (ps_asg (h X G g n e) (pg_sub (pe_var (i := i) (by rw [n]; exact hN) (by rw [e]; exact hv) hd hcd) pe_int set_list (ha _)) (hs _ e) (hw _ e) (h1 _)).wk fun Dn σ H ⟨ft, F, env, st, m, o, I, ev, k⟩ => by
    obtain ⟨d, t, r, e1, e2, e3, rfl⟩ := sset_ev ev
    refine ⟨ft, F, env, st, d, some t, I, e1, fun v H1 F1 s1 I1 r1 => ?_⟩
    obtain ⟨v0, t', es, et, sr⟩ := I1.slot i _ e2
    cases et
    refine ⟨v0, es, ?_⟩
    cases sr with
    | two ns s h1 h2 hne => cases d <;> simp [dItemSet] at e3
    | one a b hx1 =>
      rename_i p'
      have wr : ∀ o', o' = HO.lst [.int a, .int b] ∨ True → HL [p'] (upd H1 p' o') F1 := fun o' _ => ⟨fun a f => by
        unfold upd
        split
        · simp
        · exact I1.hi.trk a f, I1.hi.nft⟩
      have stp : ∀ o', Step [p'] H1 F1 (upd H1 p' o') F1 := fun o' => ⟨fun a o e n => by rw [upd_ne (by simpa using n)]; exact e, fun a n => by
        unfold upd
        split
        · simp
        · exact n, fun _ h => h, fun _ h => .inl h⟩
      have fin : ∀ (c e' : Int), ZI X.K G [p'] σ (upd H1 p' (.lst [.int c, .int e'])) F1 env (some (.list [.int c, .int e'])) := fun c e' =>
        I1.step (stp _) (I1.hi.step (stp _) (wr _ (.inr trivial))) ⟨.ref p', .one c e' upd_same⟩
      rcases hj with rfl | rfl
      · cases d <;> simp [dItemSet] at e3
        rename_i c
        subst e3
        unfold Rep at r1
        subst r1
        exact ⟨p', [.int a, .int b], 0, 0, rfl, rfl, hx1, rfl, k [p'] σ _ F1 ((s1.ss I.hi).trans ((stp _).ss I1.hi)) (fin c b)⟩
      · cases d <;> simp [dItemSet] at e3
        rename_i c
        subst e3
        unfold Rep at r1
        subst r1
        exact ⟨p', [.int a, .int b], 1, 1, rfl, rfl, hx1, rfl, k [p'] σ _ F1 ((s1.ss I.hi).trans ((stp _).ss I1.hi)) (fin a c)⟩
end Z
namespace Z
open PySem PySem.Spec PyProof.Rows L2

/-! ### a def keeps its promise -/
def mkSl : D → Sl
  | .list ts => .br (.list ts)
  | .dict ts => .br (.dict ts)
  | t => .sh t
def mkEnv (n : Nat) (args : List D) : Env := args.map mkSl ++ List.replicate (n - args.length) .no
def mkEnvS (n : Nat) (args : List D) : Env := .st :: args.map mkSl ++ List.replicate (n - (args.length + 1)) .no

def FeOk (P : Program) (w : World) (K : PySem.W.Frag) (mg : Str → Option Value) (base : Heap) (k : Nat) (e : FE) : Prop :=
  ∃ (f : Addr) (fd : FuncData) (ps : List Str), FnOk P w K mg base CX0 k f fd ps (spOf K e.kd) ∧ mg e.name = some (.ref f) ∧ PySem.W.keepIn K (.ref f) = true ∧ Binds K fd ps []
theorem FeOk.mono {P w K mg base j k e} (h : FeOk P w K mg base j e) (hk : j ≤ k) : FeOk P w K mg base k e := by
  obtain ⟨f, fd, ps, a, b, c, d⟩ := h
  exact ⟨f, fd, ps, a.mono hk, b, c, d⟩

theorem LsF.trk {K H H0 a xs} {φ : Fz} (h : LsF K H φ a xs) (e : H0 = H) : LsF K H (fun b => H0 b ≠ none ∧ φ b) a xs := by
  subst e
  rcases h with ⟨h1, h2⟩ | h
  · exact .inl ⟨⟨by rcases h2 with q | ⟨o, q⟩ <;> simp [q], h1⟩, h2⟩
  · exact .inr h
theorem slot_of {K G ft H F st t v} (e : G.H0 = H) (h : RR K ft H F t v) : SlotOk K G ft H F st (mkSl t) (some (some v)) := by
  cases t with
  | list ts =>
    obtain ⟨a, xs, e1, h1, h2⟩ := h
    exact ⟨v, rfl, a, xs, e1, h1.trk e, h2⟩
  | dict ts =>
    obtain ⟨a, xs, e1, h0, h1, h2⟩ := h
    exact ⟨v, rfl, a, xs, e1, ⟨by rw [e]; simp [h1], h0⟩, h1, h2⟩
  | none => exact ⟨v, rfl, h⟩
  | bool b => exact ⟨v, rfl, h⟩
  | int i => exact ⟨v, rfl, h⟩
  | str x => exact ⟨v, rfl, h⟩
  | tuple ts => exact ⟨v, rfl, h⟩
theorem Paired.get {α β : Type} {R : α → β → Prop} : ∀ {l : List α} {m : List β} {i : Nat} {a : α}, Paired R l m → l[i]? = some a → ∃ b, m[i]? = some b ∧ R a b
  | _, _, _, _, .nil, e => by simp at e
  | _, _, 0, _, .cons r _, e => by simp at e; subst e; exact ⟨_, rfl, r⟩
  | _, _, i + 1, a, .cons _ t, e => by
    obtain ⟨b, h1, h2⟩ := Paired.get (i := i) (a := a) t (by simpa using e)
    exact ⟨b, by simpa using h1, h2⟩
theorem mkSl_ow {t u : D} (h : mkSl t = .ow u) : False := by cases t <;> simp [mkSl] at h
theorem env_get {n : Nat} {args : List D} {i : Nat} {s : Sl} (e : (mkEnv n args)[i]? = some s) : (∃ t, args[i]? = some t ∧ s = mkSl t) ∨ s = .no := by
  unfold mkEnv at e
  by_cases h : i < args.length
  · rw [List.getElem?_append_left (by simpa using h), List.getElem?_map] at e
    cases q : args[i]? with
    | none => rw [q] at e; simp at e
    | some t => rw [q] at e; simp at e; exact .inl ⟨t, rfl, e.symm⟩
  · rw [List.getElem?_append_right (by simpa using h), List.getElem?_replicate] at e
    split at e
    · cases e; exact .inr rfl
    · cases e
theorem start_get {N : List Str} {vs : List V} {i : Nat} {v : V} (e : vs[i]? = some v) : (L2.start N vs)[i]? = some (some v) := by
  unfold L2.start
  have h := (List.getElem?_eq_some_iff.mp e).1
  rw [List.getElem?_append_left (by simpa using h), List.getElem?_map, e]
  rfl
theorem zi_start {K H F} {N : List Str} {args : List D} {vs : List V} (hl : HL [] H F) (rr : RRs K [] H F args vs) (hn : args.length ≤ N.length) : ZI K ⟨H, F, []⟩ [] (L2.start N vs) H F (mkEnv N.length args) none where
  hi := ⟨hl.trk, hl.nft, fun _ _ e _ => e, fun _ h => h, fun _ h => h, fun _ h => .inl h, fun _ h => by simp at h, fun h => absurd rfl h, fun _ _ h => by simp at h⟩
  len := by
    have := rr.length
    unfold L2.start mkEnv
    rw [List.length_append, List.length_map, List.length_replicate, List.length_append, List.length_map, List.length_replicate]
    omega
  slot := fun i s e => by
    rcases env_get e with ⟨t, e1, rfl⟩ | rfl
    · obtain ⟨v, e2, r⟩ := Paired.get rr e1
      rw [start_get e2]
      exact slot_of rfl r
    · trivial
  dis := fun i j p ⟨⟨u, e⟩, _⟩ => by
    rcases env_get e with ⟨t, e1, q⟩ | q
    · exact (mkSl_ow q.symm).elim
    · cases q
  sto := rfl
theorem envS_get {n : Nat} {args : List D} {i : Nat} {s : Sl} (e : (mkEnvS n args)[i]? = some s) : (i = 0 ∧ s = .st) ∨ ∃ j, i = j + 1 ∧ ((∃ t, args[j]? = some t ∧ s = mkSl t) ∨ s = .no) := by
  cases i with
  | zero => simp [mkEnvS] at e; exact .inl ⟨rfl, e.symm⟩
  | succ j =>
    refine .inr ⟨j, rfl, ?_⟩
    have e' : (mkEnv (n - 1) args)[j]? = some s := by
      unfold mkEnvS at e
      unfold mkEnv
      simp at e
      have : n - 1 - args.length = n - (args.length + 1) := by omega
      rw [this]
      exact e
    exact env_get e'
theorem zi_startS {K H F t v0 ft} {N : List Str} {args : List D} {vs : List V} (hl : HL ft H F) (sr : StRep H t v0 ft) (rr : RRs K ft H F args vs) (hn : args.length + 1 ≤ N.length) : ZI K ⟨H, F, ft⟩ ft (L2.start N (v0 :: vs)) H F (mkEnvS N.length args) (some t) where
  hi := ⟨hl.trk, hl.nft, fun _ _ e _ => e, fun _ h => h, fun _ h => h, fun _ h => .inl h, sr.trk, fun _ => rfl, fun h => absurd h sr.ne⟩
  len := by
    have := rr.length
    unfold L2.start mkEnvS
    simp
    omega
  slot := fun i s e => by
    rcases envS_get e with ⟨rfl, rfl⟩ | ⟨j, rfl, ⟨u, e1, rfl⟩ | rfl⟩
    · exact ⟨v0, t, start_get rfl, rfl, sr⟩
    · obtain ⟨v, e2, r⟩ := Paired.get rr e1
      rw [start_get (v := v) (by simpa using e2)]
      exact slot_of rfl r
    · trivial
  dis := fun i j p ⟨⟨u, e⟩, _⟩ => by
    rcases envS_get e with ⟨rfl, q⟩ | ⟨j, rfl, ⟨u, e1, q⟩ | q⟩
    · cases q
    · exact (mkSl_ow q.symm).elim
    · cases q
  sto := ⟨v0, sr⟩
/-- what the caller gets back -/
theorem grow_of {H F ft' H' F'} (h : HI ⟨H, F, []⟩ ft' H' F') : Grow H F H' F' where
  same := fun a o e => h.keep a o e fun z => by
    have q : H a = none := h.fn rfl a z
    rw [show H a = some o from e] at q
    cases q
  old := h.old
  new := h.new
  trk := h.trk
theorem step_of {H F ft ft' H' F'} (h : HI ⟨H, F, ft⟩ ft' H' F') (ne : ft ≠ []) : ft' = ft ∧ Step ft H F H' F' ∧ HL ft H' F' := by
  have e : ft' = ft := h.pf ne
  subst e
  exact ⟨rfl, ⟨h.keep, h.there, h.old, h.new⟩, h.trk, h.nft⟩

structure CtOk (P : Program) (w : World) (K : PySem.W.Frag) (mg : Str → Option Value) (base : Heap) (k : Nat) (C : Ct) : Prop where
  tab : ∀ e ∈ C.fes, FeOk P w K mg base k e
  blt : ∀ n ∈ C.blts, mg n = none
  gcd : C.gcd = true → mg "gcd" = some (.builtin "math.gcd")
theorem CtOk.good {P w K mg base k C N qual scope f cdv A outer s H E} (h : CtOk P w K mg base k C) (nd : N.Nodup) (hr : Room k (A.deeper (envOfC qual scope s.heap.objs.size f cdv))) : Good C (cxOf CX0 P w K mg base N qual scope f cdv A outer s H E).nox where
  calm := rfl
  nd := nd
  xe := rfl
  room := hr.mono (Nat.zero_le _)
  tab := fun e he => by
    obtain ⟨f, fd, ps, a, b, c, d⟩ := h.tab e he
    exact ⟨k, f, fd, ps, a, hr, b, c, d⟩
  blt := h.blt
  gcd := h.gcd
variable {P : Program} {w : World} {K : PySem.W.Frag} {mg : Str → Option Value} {base : Heap}
theorem fn_pl {nm qual : Str} {stt : Stmt} {f : Addr} {fd : FuncData} {N ps : List Str} {k : Nat} {C : Ct} {z : ZS} {fs : List D → Option D} (Fn : Fun K nm qual stt f fd) (S : FnScope N ps (defScope stt)) (ct : CtOk P w K mg base k C)
    (d : QSs C N (defScope stt) (defBody stt) z) (hlen : ∀ args r, fs args = some r → args.length = ps.length) (hev : ∀ args r, fs args = some r → ∃ n st', evS n z (mkEnv N.length args) none = some (.ret r st')) : FnOk P w K mg base CX0 (k + 1) f fd ps (spOf K (.pl fs)) := by
  have hpl : ps.length ≤ N.length := by have := congrArg List.length S.pre; rw [List.length_take] at this; omega
  refine Fn.ok S (fun vs H Q E h => ?_) (fun cdv A outer s H vs Q E hr h => ?_)
  · obtain ⟨F, args, r, hl, rr, e, _⟩ := h
    rw [← rr.length, hlen _ _ e]
  · obtain ⟨F, args, r, hl, rr, e, q⟩ := h
    obtain ⟨n, st', ev⟩ := hev _ _ e
    refine ⟨_, d _ ⟨H, F, []⟩ (ct.good S.nd hr) rfl rfl rfl, [], F, _, none, n, _, zi_start hl rr (by rw [hlen _ _ e]; exact hpl), ev, ?_⟩
    intro ft' v H' F' hi sto rp
    exact q v H' F' (grow_of hi) rp
theorem fn_sf {nm qual : Str} {stt : Stmt} {f : Addr} {fd : FuncData} {N ps : List Str} {k : Nat} {C : Ct} {z : ZS} {fs : D → List D → Option (D × D)} (Fn : Fun K nm qual stt f fd) (S : FnScope N ps (defScope stt)) (ct : CtOk P w K mg base k C)
    (d : QSs C N (defScope stt) (defBody stt) z) (hlen : ∀ t args r, fs t args = some r → args.length + 1 = ps.length) (hev : ∀ t args r t', fs t args = some (r, t') → ∃ n, evS n z (mkEnvS N.length args) (some t) = some (.ret r (some t'))) : FnOk P w K mg base CX0 (k + 1) f fd ps (spOf K (.sf fs)) := by
  have hpl : ps.length ≤ N.length := by have := congrArg List.length S.pre; rw [List.length_take] at this; omega
  refine Fn.ok S (fun vs H Q E h => ?_) (fun cdv A outer s H vs Q E hr h => ?_)
  · obtain ⟨ft, v0, rest, F, args, t, r, t', rfl, sr, hl, rr, e, _⟩ := h
    rw [List.length_cons, ← rr.length, hlen _ _ _ e]
  · obtain ⟨ft, v0, rest, F, args, t, r, t', rfl, sr, hl, rr, e, q⟩ := h
    obtain ⟨n, ev⟩ := hev _ _ _ _ e
    refine ⟨_, d _ ⟨H, F, ft⟩ (ct.good S.nd hr) rfl rfl rfl, ft, F, _, some t, n, _, zi_startS hl sr rr (by rw [hlen _ _ _ e]; exact hpl), ev, ?_⟩
    intro ft' v H' F' hi sto rp
    obtain ⟨rfl, st, hl'⟩ := step_of hi sr.ne
    obtain ⟨v', sr'⟩ := sto
    obtain rfl := sr.fun sr'
    exact q v H' F' st hl' sr' rp

/-! ### the law -/
def Good63 (ns : List Int) : Prop := ns.length ≤ 63 ∧ ∀ z ∈ ns, Builtin.Int.intBits z ≤ 1048576
open Classical in
/-- the law says True of every script -/
noncomputable def fLaw : List D → Option D := fun args => if ∃ ns, Good63 ns ∧ args = [.list (ns.map PyData.int)] then some (.bool true) else none
theorem fLaw_some {args : List D} {r : D} (h : fLaw args = some r) : ∃ ns, Good63 ns ∧ args = [.list (ns.map PyData.int)] ∧ r = .bool true := by
  unfold fLaw at h
  split at h
  · rename_i h1
    obtain ⟨ns, a, b⟩ := h1
    cases h
    exact ⟨ns, a, b, rfl⟩
  · cases h
theorem law_end {H : Hp} {a : Addr} {ns : List Int} (hl : ns.length ≤ 63) (hb : ∀ z ∈ ns, Builtin.Int.intBits z ≤ 1048576) (hS : SqL K H a (ns.map V.int)) : spOf K (.pl fLaw) [.ref a] H (fun v _ => v = .bl true) fun _ _ _ => False := by
  refine ⟨fun _ => False, [.list (ns.map PyData.int)], .bool true, ⟨fun _ h => h.elim, fun _ h => h.elim⟩, .cons ⟨a, _, rfl, ?_, RepL.of_ints ns⟩ .nil, ?_, fun v H' F' _ rp => ?_⟩
  · rcases hS with h | h
    · exact .inl ⟨by simp, h⟩
    · exact .inr h
  · unfold fLaw
    rw [if_pos ⟨ns, ⟨hl, hb⟩, rfl⟩]
  · unfold Rep at rp
    exact rp
end Z
namespace Z
open PySem PySem.Spec PyProof.Rows L2
variable {C : Ct} {N : List Str} {sc : Scope} {x y w : Expr} {z zx zy zw zc ze : ZE} {pos : Pos} {es : List Expr} {M : Md} {tg tr : Tg} {s : Stmt} {ss : List Stmt} {q q1 q2 : ZS}

/-! ### the operators' pure meanings -/
def mulOk (i j : Int) : Bool := decide (i.natAbs.log2 + j.natAbs.log2 < 100000000)
def divOk (j : Int) : Bool := decide (0 < j) && decide (j.natAbs.log2 < 9000)
def dAdd : D → D → Option D
  | .int i, .int j => some (.int (i + j))
  | .list a, .list b => if a.length + b.length ≤ 16777216 then some (.list (a ++ b)) else none
  | .tuple a, .tuple b => if a.length + b.length ≤ 16777216 then some (.tuple (a ++ b)) else none
  | .str a, .str b => if a.length + b.length ≤ 16777216 then some (.str (a ++ b)) else none
  | _, _ => none
def dSub : D → D → Option D
  | .int i, .int j => some (.int (i - j))
  | _, _ => none
def dMul : D → D → Option D
  | .int i, .int j => if mulOk i j then some (.int (i * j)) else none
  | _, _ => none
def dDiv : D → D → Option D
  | .int i, .int j => if divOk j then some (.int (i / j)) else none
  | _, _ => none
def dMod : D → D → Option D
  | .int i, .int j => if 0 < j then some (.int (i % j)) else none
  | _, _ => none
def dPow : D → D → Option D
  | .int i, .int j => if 0 ≤ j ∧ j ≤ 1000000 ∧ i.natAbs < 2 ^ 64 then some (.int (i ^ j.toNat)) else none
  | _, _ => none
def dShl : D → D → Option D
  | .int i, .int j => if 0 ≤ j ∧ j ≤ 1000000 ∧ i.natAbs < 2 ^ 64 then some (.int (i * 2 ^ j.toNat)) else none
  | _, _ => none
def dLt : D → D → Option D
  | .int i, .int j => some (.bool (decide (i < j)))
  | _, _ => none
def dLe : D → D → Option D
  | .int i, .int j => some (.bool (decide (i ≤ j)))
  | _, _ => none
def dGt : D → D → Option D
  | .int i, .int j => some (.bool (decide (j < i)))
  | _, _ => none
def dGe : D → D → Option D
  | .int i, .int j => some (.bool (decide (j ≤ i)))
  | _, _ => none
def dEq (a b : D) : Option D := if SeqAt.shaped a && SeqAt.shaped b then some (.bool (PyData.eqv a b)) else none
def dNe (a b : D) : Option D := if SeqAt.shaped a && SeqAt.shaped b then some (.bool (!PyData.eqv a b)) else none
def isNn : D → Bool
  | .none => true
  | _ => false
def dIs : D → D → Option D
  | a, .none => some (.bool (isNn a))
  | .bool a, .bool b => some (.bool (decide (a = b)))
  | _, _ => none
def dIsNot : D → D → Option D
  | a, .none => some (.bool (!isNn a))
  | .bool a, .bool b => some (.bool (!decide (a = b)))
  | _, _ => none
def flD : D → Bool
  | .none => true
  | .bool _ => true
  | .int _ => true
  | .str _ => true
  | _ => false
def dIn : D → D → Option D
  | a, .list ds => if SeqAt.shaped a && SeqAt.shaped (.list ds) then some (.bool (ds.any fun t => PyData.eqv t a)) else none
  | a, .tuple ds => if flD a && ds.all flD then some (.bool (ds.any fun t => PyData.eqv t a)) else none
  | _, _ => none
def dNotIn : D → D → Option D
  | a, .list ds => if SeqAt.shaped a && SeqAt.shaped (.list ds) then some (.bool (!(ds.any fun t => PyData.eqv t a))) else none
  | a, .tuple ds => if flD a && ds.all flD then some (.bool (!(ds.any fun t => PyData.eqv t a))) else none
  | _, _ => none
def dNeg : D → Option D
  | .int i => some (.int (-i))
  | _ => none
def dRep : D → D → Option D
  | .list xs, .int k => if -(2 ^ 63) ≤ k ∧ k < 2 ^ 63 ∧ xs.length * k.toNat ≤ 16777216 then some (.list (List.replicate k.toNat xs).flatten) else none
  | _, _ => none
def dIx : D → D → Option D
  | .list ts, .int i => atI ts i
  | .tuple ts, .int i => atI ts i
  | _, _ => none

/-! ### .. are right -/
theorem rr2 {K ft H F a b x y} {Q : Prop} (h1 : RR K ft H F a x) (h2 : RR K ft H F b y) (h : x = x → Q) : Q := h rfl
theorem oi2 {op : Value → Value → Sem Value} {f : D → D → Option D} {c : Int → Int → Prop} {g : Int → Int → V} {g' : Int → Int → D} (h : ∀ X, Good C X → OpR X op (rI c g))
    (hf : ∀ a b r, f a b = some r → ∃ i j, a = .int i ∧ b = .int j ∧ c i j ∧ r = g' i j) (hr : ∀ K H F i j, Rep K H F (g' i j) (g i j)) : Op2 C op f := fun X g => (OpR.imp (h X g) fun x y H Q ⟨ft, F, a, b, r, hl, ra, rb, e, q⟩ => by
  obtain ⟨i, j, rfl, rfl, hc, rfl⟩ := hf a b r e
  exact ⟨i, j, RR.int ra, RR.int rb, hc, q _ H F (Grow.rfl' hl) (hr _ _ _ _ _)⟩)
theorem oi20 {op : Value → Value → Sem Value} {f : D → D → Option D} {g : Int → Int → V} {g' : Int → Int → D} (h : ∀ X, Good C X → OpR X op (rI0 g))
    (hf : ∀ a b r, f a b = some r → ∃ i j, a = .int i ∧ b = .int j ∧ r = g' i j) (hr : ∀ K H F i j, Rep K H F (g' i j) (g i j)) : Op2 C op f := fun X g => (OpR.imp (h X g) fun x y H Q ⟨ft, F, a, b, r, hl, ra, rb, e, q⟩ => by
  obtain ⟨i, j, rfl, rfl, rfl⟩ := hf a b r e
  exact ⟨i, j, RR.int ra, RR.int rb, q _ H F (Grow.rfl' hl) (hr _ _ _ _ _)⟩)
theorem rep_bool {K H F b} : Rep K H F (.bool b) (.bl b) := by unfold Rep; rfl
theorem o_sub : Op2 C (binaryOp .Sub) dSub := oi20 (g' := fun i j => .int (i - j)) (fun _ _ => op_sub) (fun a b r e => by cases a <;> cases b <;> simp [dSub] at e; exact ⟨_, _, rfl, rfl, e.symm⟩) fun _ _ _ _ _ => rep_int
theorem o_mul : Op2 C (binaryOp .Mult) dMul := oi2 (g' := fun i j => .int (i * j)) (fun _ _ => op_mulX) (fun a b r e => by
  cases a <;> cases b <;> simp [dMul] at e
  obtain ⟨h, e⟩ := e
  refine ⟨_, _, rfl, rfl, ?_, e.symm⟩
  rename_i i j
  unfold mulOk at h
  have h := of_decide_eq_true h
  have b : ∀ x : Int, Builtin.Int.intBits x ≤ x.natAbs.log2 + 1 := fun x => by
    unfold Builtin.Int.intBits
    split <;> omega
  have h1 := b i
  have h2 := b j
  show (Builtin.Int.intBits i : Int) + (Builtin.Int.intBits j : Int) ≤ 134217728
  omega) fun _ _ _ _ _ => rep_int
theorem o_div : Op2 C (binaryOp .FloorDiv) dDiv := oi2 (g' := fun i j => .int (i / j)) (fun _ _ => op_fdivW) (fun a b r e => by
  cases a <;> cases b <;> simp [dDiv] at e
  obtain ⟨h, e⟩ := e
  unfold divOk at h
  simp only [Bool.and_eq_true, decide_eq_true_eq] at h
  exact ⟨_, _, rfl, rfl, h, e.symm⟩) fun _ _ _ _ _ => rep_int
theorem o_mod : Op2 C (binaryOp .Mod) dMod := oi2 (g' := fun i j => .int (i % j)) (fun _ _ => op_mod) (fun a b r e => by
  cases a <;> cases b <;> simp [dMod] at e
  exact ⟨_, _, rfl, rfl, e.1, e.2.symm⟩) fun _ _ _ _ _ => rep_int
theorem o_pow : Op2 C (binaryOp .Pow) dPow := oi2 (g' := fun i j => .int (i ^ j.toNat)) (fun _ _ => op_pow) (fun a b r e => by
  cases a <;> cases b <;> simp only [dPow] at e <;> try (cases e; done)
  split at e
  · rename_i h
    cases e
    exact ⟨_, _, rfl, rfl, h, rfl⟩
  · cases e) fun _ _ _ _ _ => rep_int
theorem o_shl : Op2 C (binaryOp .LShift) dShl := oi2 (g' := fun i j => .int (i * 2 ^ j.toNat)) (fun _ _ => op_shl) (fun a b r e => by
  cases a <;> cases b <;> simp only [dShl] at e <;> try (cases e; done)
  split at e
  · rename_i h
    cases e
    exact ⟨_, _, rfl, rfl, h, rfl⟩
  · cases e) fun _ _ _ _ _ => rep_int
theorem o_lt : Op2 C (compareOp .Lt) dLt := oi20 (g' := fun i j => .bool (decide (i < j))) (fun _ _ => op_lt) (fun a b r e => by cases a <;> cases b <;> simp [dLt] at e; exact ⟨_, _, rfl, rfl, e.symm⟩) fun _ _ _ _ _ => rep_bool
theorem o_le : Op2 C (compareOp .LtE) dLe := oi20 (g' := fun i j => .bool (decide (i ≤ j))) (fun _ _ => op_le) (fun a b r e => by cases a <;> cases b <;> simp [dLe] at e; exact ⟨_, _, rfl, rfl, e.symm⟩) fun _ _ _ _ _ => rep_bool
theorem o_gt : Op2 C (compareOp .Gt) dGt := oi20 (g' := fun i j => .bool (decide (j < i))) (fun _ _ => op_gt) (fun a b r e => by cases a <;> cases b <;> simp [dGt] at e; exact ⟨_, _, rfl, rfl, e.symm⟩) fun _ _ _ _ _ => rep_bool
theorem o_ge : Op2 C (compareOp .GtE) dGe := oi20 (g' := fun i j => .bool (decide (j ≤ i))) (fun _ _ => op_ge) (fun a b r e => by cases a <;> cases b <;> simp [dGe] at e; exact ⟨_, _, rfl, rfl, e.symm⟩) fun _ _ _ _ _ => rep_bool
theorem i_add : Op2 C (inplaceOp .Add) (fun a b => match a, b with | .int i, .int j => some (.int (i + j)) | _, _ => none) := oi20 (g' := fun i j => .int (i + j)) (fun _ _ => iop_add) (fun a b r e => by cases a <;> cases b <;> simp at e; exact ⟨_, _, rfl, rfl, e.symm⟩) fun _ _ _ _ _ => rep_int
theorem i_sub : Op2 C (inplaceOp .Sub) dSub := oi20 (g' := fun i j => .int (i - j)) (fun _ _ => iop_sub) (fun a b r e => by cases a <;> cases b <;> simp [dSub] at e; exact ⟨_, _, rfl, rfl, e.symm⟩) fun _ _ _ _ _ => rep_int
theorem o_neg : Op1 C (unaryOp .USub) dNeg := fun X g => UnR.imp un_neg fun x H Q ⟨ft, F, a, r, hl, ra, e, q⟩ => by
  cases a <;> simp [dNeg] at e
  subst e
  exact ⟨_, RR.int ra, q _ H F (Grow.rfl' hl) rep_int⟩

/-! data without dicts are deep data -/
mutual
theorem rep_dp {K H F} : ∀ (t : D) {v : V}, PyData.canLay0 t = true → Rep K H F t v → Dp K H v t
  | .none, v, _, h => by unfold Rep at h; subst h; exact .non
  | .bool b, v, _, h => by unfold Rep at h; subst h; exact .bl b
  | .int i, v, _, h => by unfold Rep at h; subst h; exact .int i
  | .str x, v, _, h => by unfold Rep at h; subst h; exact .str x
  | .list ts, v, c, h => by
    unfold Rep at h
    obtain ⟨a, xs, rfl, h1, h2⟩ := h
    exact .lst h1.sq (repL_dp ts (by simpa [PyData.canLay0] using c) h2)
  | .tuple ts, v, c, h => by
    unfold Rep at h
    obtain ⟨a, xs, rfl, h1, h2⟩ := h
    exact .tup h1.sq (repL_dp ts (by simpa [PyData.canLay0] using c) h2)
  | .dict kvs, v, c, h => by simp [PyData.canLay0] at c
theorem repL_dp {K H F} : ∀ (ts : List D) {vs : List V}, PyData.canLayAll0 ts = true → RepL K H F ts vs → DpAll K H vs ts
  | [], vs, _, h => by unfold RepL at h; subst h; exact .nil
  | t :: ts, vs, c, h => by
    unfold RepL at h
    obtain ⟨x, xs, rfl, h1, h2⟩ := h
    have c' : t.canLay0 = true ∧ PyData.canLayAll0 ts = true := by simpa [PyData.canLayAll0] using c
    exact .cons (rep_dp t c'.1 h1) (repL_dp ts c'.2 h2)
end
theorem rr_dp {K ft H F} {t : D} {v : V} (c : PyData.canLay0 t = true) (h : RR K ft H F t v) : Dp K H v t := by
  cases t with
  | list ts =>
    obtain ⟨a, xs, rfl, h1, h2⟩ := h
    exact .lst h1.sq (repL_dp ts (by simpa [PyData.canLay0] using c) h2)
  | dict kvs => simp [PyData.canLay0] at c
  | none => exact rep_dp (F := F) _ c h
  | bool b => exact rep_dp (F := F) _ c h
  | int i => exact rep_dp (F := F) _ c h
  | str x => exact rep_dp (F := F) _ c h
  | tuple ts => exact rep_dp (F := F) _ c h
theorem o_eq : Op2 C (compareOp .Eq) dEq := fun X g => OpR.imp (op_eqD g.room.units) fun x y H Q ⟨ft, F, a, b, r, hl, ra, rb, e, q⟩ => by
  unfold dEq at e
  split at e
  · rename_i h
    rw [Bool.and_eq_true] at h
    cases e
    exact ⟨a, b, rr_dp (SeqAt.canLay_of_shaped h.1) ra, rr_dp (SeqAt.canLay_of_shaped h.2) rb, h.1, h.2, q _ H F (Grow.rfl' hl) rep_bool⟩
  · cases e
theorem o_ne : Op2 C (compareOp .NotEq) dNe := fun X g => OpR.imp (op_neD g.room.units) fun x y H Q ⟨ft, F, a, b, r, hl, ra, rb, e, q⟩ => by
  unfold dNe at e
  split at e
  · rename_i h
    rw [Bool.and_eq_true] at h
    cases e
    exact ⟨a, b, rr_dp (SeqAt.canLay_of_shaped h.1) ra, rr_dp (SeqAt.canLay_of_shaped h.2) rb, h.1, h.2, q _ H F (Grow.rfl' hl) rep_bool⟩
  · cases e

theorem isn_rep {K H F t v} (h : Rep K H F t v) : decide (v = V.non) = isNn t := by
  cases t with
  | none => unfold Rep at h; subst h; rfl
  | bool b => unfold Rep at h; subst h; rfl
  | int i => unfold Rep at h; subst h; rfl
  | str x => unfold Rep at h; subst h; rfl
  | list ts => unfold Rep at h; obtain ⟨a, xs, rfl, _⟩ := h; rfl
  | tuple ts => unfold Rep at h; obtain ⟨a, xs, rfl, _⟩ := h; rfl
  | dict ts => unfold Rep at h; obtain ⟨a, xs, rfl, _⟩ := h; rfl
theorem isn_rr {K ft H F t v} (h : RR K ft H F t v) : decide (v = V.non) = isNn t := by
  cases t with
  | list ts => obtain ⟨a, xs, rfl, _⟩ := h; rfl
  | dict ts => obtain ⟨a, xs, rfl, _⟩ := h; rfl
  | none => exact isn_rep (K := K) (H := H) (F := F) h
  | bool b => exact isn_rep (K := K) (H := H) (F := F) h
  | int i => exact isn_rep (K := K) (H := H) (F := F) h
  | str x => exact isn_rep (K := K) (H := H) (F := F) h
  | tuple ts => exact isn_rep (K := K) (H := H) (F := F) h
theorem rr_none {K ft H F v} (h : RR K ft H F .none v) : v = .non := by
  have h' : Rep K H F .none v := h
  unfold Rep at h'
  exact h'
theorem dIs_ev {a b r : D} (h : dIs a b = some r) : (b = .none ∧ r = .bool (isNn a)) ∨ ∃ c d, a = .bool c ∧ b = .bool d ∧ r = .bool (decide (c = d)) := by
  cases b with
  | none => left; cases a <;> simp [dIs] at h <;> exact ⟨rfl, h.symm⟩
  | bool d => right; cases a <;> simp [dIs] at h; exact ⟨_, _, rfl, rfl, by simp [h]⟩
  | _ => cases a <;> simp [dIs] at h
theorem dIsNot_ev {a b r : D} (h : dIsNot a b = some r) : (b = .none ∧ r = .bool (!isNn a)) ∨ ∃ c d, a = .bool c ∧ b = .bool d ∧ r = .bool (!decide (c = d)) := by
  cases b with
  | none => left; cases a <;> simp [dIsNot] at h <;> exact ⟨rfl, h.symm⟩
  | bool d => right; cases a <;> simp [dIsNot] at h; exact ⟨_, _, rfl, rfl, by simp [h]⟩
  | _ => cases a <;> simp [dIsNot] at h
theorem o_is : Op2 C (compareOp .Is) dIs := fun X g => OpR.imp (OpR.or op_isN op_is_bl) fun x y H Q ⟨ft, F, a, b, r, hl, ra, rb, e, q⟩ => by
  rcases dIs_ev e with ⟨rfl, rfl⟩ | ⟨c, d, rfl, rfl, rfl⟩
  · exact .inl ⟨rr_none rb, by rw [isn_rr ra]; exact q _ H F (Grow.rfl' hl) rep_bool⟩
  · exact .inr ⟨c, d, RR.bool ra, RR.bool rb, q _ H F (Grow.rfl' hl) rep_bool⟩
theorem o_isnot : Op2 C (compareOp .IsNot) dIsNot := fun X g => OpR.imp (OpR.or op_notN op_isnot_bl) fun x y H Q ⟨ft, F, a, b, r, hl, ra, rb, e, q⟩ => by
  rcases dIsNot_ev e with ⟨rfl, rfl⟩ | ⟨c, d, rfl, rfl, rfl⟩
  · exact .inl ⟨rr_none rb, by rw [isn_rr ra]; exact q _ H F (Grow.rfl' hl) rep_bool⟩
  · exact .inr ⟨c, d, RR.bool ra, RR.bool rb, q _ H F (Grow.rfl' hl) rep_bool⟩
theorem fl_rep {K H F t v} (f : flD t = true) (h : Rep K H F t v) : flatV v = true ∧ ∀ u w, flD u = true → Rep K H F u w → eqV w v = PyData.eqv u t := by
  cases t <;> simp [flD] at f <;> unfold Rep at h <;> subst h <;> refine ⟨rfl, fun u w fu hu => ?_⟩ <;> cases u <;> simp [flD] at fu <;> unfold Rep at hu <;> subst hu <;> simp [eqV, PyData.eqv]
theorem fl_any {K H F t v} (f : flD t = true) (h : Rep K H F t v) : ∀ {ts : List D} {vs : List V}, ts.all flD = true → RepL K H F ts vs → vs.all flatV = true ∧ inV v vs = ts.any fun u => PyData.eqv u t
  | [], vs, _, r => by unfold RepL at r; subst r; exact ⟨rfl, rfl⟩
  | u :: ts, vs, a, r => by
    unfold RepL at r
    obtain ⟨x, xs, rfl, h1, h2⟩ := r
    simp only [List.all_cons, Bool.and_eq_true] at a
    obtain ⟨i1, i2⟩ := fl_any f h a.2 h2
    refine ⟨by simp only [List.all_cons, Bool.and_eq_true]; exact ⟨(fl_rep a.1 h1).1, i1⟩, ?_⟩
    unfold inV at i2 ⊢
    rw [List.any_cons, List.any_cons, i2, (fl_rep f h).2 u x a.1 h1]
theorem rr_rep {K ft H F t v} (f : flD t = true) (h : RR K ft H F t v) : Rep K H F t v := by
  cases t <;> simp [flD] at f <;> exact h
theorem dIn_ev {a b r : D} (h : dIn a b = some r) : (∃ ds, b = .list ds ∧ SeqAt.shaped a = true ∧ SeqAt.shaped (.list ds) = true ∧ r = .bool (ds.any fun t => PyData.eqv t a)) ∨ ∃ ds, b = .tuple ds ∧ flD a = true ∧ ds.all flD = true ∧ r = .bool (ds.any fun t => PyData.eqv t a) := by
  cases b with
  | list ds =>
    simp only [dIn] at h
    split at h
    · rename_i c
      rw [Bool.and_eq_true] at c
      cases h
      exact .inl ⟨ds, rfl, c.1, c.2, rfl⟩
    · cases h
  | tuple ds =>
    simp only [dIn] at h
    split at h
    · rename_i c
      rw [Bool.and_eq_true] at c
      cases h
      exact .inr ⟨ds, rfl, c.1, c.2, rfl⟩
    · cases h
  | _ => simp [dIn] at h
theorem dNotIn_ev {a b r : D} (h : dNotIn a b = some r) : (∃ ds, b = .list ds ∧ SeqAt.shaped a = true ∧ SeqAt.shaped (.list ds) = true ∧ r = .bool (!(ds.any fun t => PyData.eqv t a))) ∨ ∃ ds, b = .tuple ds ∧ flD a = true ∧ ds.all flD = true ∧ r = .bool (!(ds.any fun t => PyData.eqv t a)) := by
  cases b with
  | list ds =>
    simp only [dNotIn] at h
    split at h
    · rename_i c
      rw [Bool.and_eq_true] at c
      cases h
      exact .inl ⟨ds, rfl, c.1, c.2, rfl⟩
    · cases h
  | tuple ds =>
    simp only [dNotIn] at h
    split at h
    · rename_i c
      rw [Bool.and_eq_true] at c
      cases h
      exact .inr ⟨ds, rfl, c.1, c.2, rfl⟩
    · cases h
  | _ => simp [dNotIn] at h
theorem o_in : Op2 C (compareOp .In) dIn := fun X g => OpR.imp (OpR.or (op_inD (by have := g.room.un; omega)) op_in_seq) fun x y H Q ⟨ft, F, a, b, r, hl, ra, rb, e, q⟩ => by
  rcases dIn_ev e with ⟨ds, rfl, h1, h2, rfl⟩ | ⟨ds, rfl, h1, h2, rfl⟩
  · exact .inl ⟨a, ds, rr_dp (SeqAt.canLay_of_shaped h1) ra, rr_dp (SeqAt.canLay_of_shaped h2) rb, h1, h2, q _ H F (Grow.rfl' hl) rep_bool⟩
  · have rb' : Rep X.K H F (.tuple ds) y := rb
    unfold Rep at rb'
    obtain ⟨p, xs, rfl, h3, h4⟩ := rb'
    have ra' := rr_rep h1 ra
    obtain ⟨k1, k2⟩ := fl_any h1 ra' h2 h4
    exact .inr ⟨p, xs, rfl, .inr h3.sq, (fl_rep h1 ra').1, k1, by
      rw [k2]
      exact q _ H F (Grow.rfl' hl) rep_bool⟩
theorem o_notin : Op2 C (compareOp .NotIn) dNotIn := fun X g => OpR.imp (OpR.or (op_notInD (by have := g.room.un; omega)) op_notIn_seq) fun x y H Q ⟨ft, F, a, b, r, hl, ra, rb, e, q⟩ => by
  rcases dNotIn_ev e with ⟨ds, rfl, h1, h2, rfl⟩ | ⟨ds, rfl, h1, h2, rfl⟩
  · exact .inl ⟨a, ds, rr_dp (SeqAt.canLay_of_shaped h1) ra, rr_dp (SeqAt.canLay_of_shaped h2) rb, h1, h2, q _ H F (Grow.rfl' hl) rep_bool⟩
  · have rb' : Rep X.K H F (.tuple ds) y := rb
    unfold Rep at rb'
    obtain ⟨p, xs, rfl, h3, h4⟩ := rb'
    have ra' := rr_rep h1 ra
    obtain ⟨k1, k2⟩ := fl_any h1 ra' h2 h4
    exact .inr ⟨p, xs, rfl, .inr h3.sq, (fl_rep h1 ra').1, k1, by
      rw [k2]
      exact q _ H F (Grow.rfl' hl) rep_bool⟩

/-! ### sums of lists -/
theorem op_catL {X : Cx} : OpR X (binaryOp .Add) (fun x y H Q => ∃ a b xs ys, x = .ref a ∧ y = .ref b ∧ SqL X.K H a xs ∧ SqL X.K H b ys ∧ xs.length + ys.length ≤ sizeLine ∧ ∀ p, H p = none → Q (.ref p) (upd H p (.lst (xs ++ ys)))) := by
  intro pins s σ H x y v u Q I rx ry h
  obtain ⟨a, b, xs, ys, rfl, rfl, ha, hb, hz, q⟩ := h
  cases rx
  cases ry
  obtain ⟨vs, r1, p1, _⟩ := I.list ha
  obtain ⟨ws, r2, p2, _⟩ := I.list hb
  obtain ⟨⟨cls, dd, data, sl⟩, ho, hc, n, hd⟩ := p1.isList
  obtain ⟨⟨cls2, dd2, data2, sl2⟩, ho2, hc2, n2, hd2⟩ := p2.isList
  simp only at hc hd hc2 hd2
  subst hc hd hc2 hd2
  have e : vs.toArray ++ ws.toArray = (vs ++ ws).toArray := by simp
  refine concat_meets ⟨_, ho, rfl⟩ ⟨_, ho2, rfl⟩ noFill_list_add seq_list_add PySem.F.slot_list_add PySem.F.entry_list_add (PySem.F.args_list_add_2 _ _) (list_addW a b vs.toArray ws.toArray n n2 dd dd2 sl sl2 (by rw [List.size_toArray, List.size_toArray, ← r1.length, ← r2.length]; exact hz)) ⟨ho, ho2, ?_⟩
  rw [e]
  exact ⟨.ref _, _, I.lnew (t' := s.toks) (r1.append r2) (by rw [List.length_append]; exact hz), rfl, q _ I.fresh⟩
def dCat : D → D → Option D
  | .list a, .list b => if a.length + b.length ≤ 16777216 then some (.list (a ++ b)) else none
  | _, _ => none
/-- a new list at p -/
theorem own_new {K ft H F p ts vs} (hl : HL ft H F) (hp : H p = none) (r : RepL K H F ts vs) : Grow H F (upd H p (.lst vs)) F ∧ ¬ F p ∧ OwnAt K (upd H p (.lst vs)) F (.list ts) p := by
  have gr : Grow H F (upd H p (.lst vs)) F := ⟨fun b x e => by rw [upd_ne (ne_of_none e hp)]; exact e, fun _ h => h, fun _ h => .inl h, fun a f => by
    unfold upd
    split
    · simp
    · exact hl.trk a f⟩
  exact ⟨gr, fun f => hl.trk p f hp, vs, upd_same, RepL.keep (fun a o _ e => gr.same a o e) (fun _ h => h) _ r⟩
theorem sh_new {K ft H F p ts vs} (hl : HL ft H F) (hp : H p = none) (r : RepL K H F ts vs) (o : HO) (ho : o = .lst vs ∨ o = .tup vs) : Grow H F (upd H p o) (fun a => F a ∨ a = p) ∧ RepL K (upd H p o) (fun a => F a ∨ a = p) ts vs := by
  have gr : Grow H F (upd H p o) (fun a => F a ∨ a = p) := ⟨fun b x e => by rw [upd_ne (ne_of_none e hp)]; exact e, fun _ h => .inl h, fun a h => h.elim .inl fun e => .inr (by rw [e]; exact hp), fun a f => by
    unfold upd
    split
    · simp
    · rename_i n
      exact hl.trk a (f.resolve_right n)⟩
  exact ⟨gr, RepL.keep (fun a o _ e => gr.same a o e) (fun _ h => .inl h) _ r⟩
theorem rep_lst {K H} {F : Fz} {p ts vs} (r : RepL K (upd H p (.lst vs)) (fun a => F a ∨ a = p) ts vs) : Rep K (upd H p (.lst vs)) (fun a => F a ∨ a = p) (.list ts) (.ref p) := by
  unfold Rep
  exact ⟨p, vs, rfl, .inl ⟨.inr rfl, .inl upd_same⟩, r⟩
theorem rep_tup {K H} {F : Fz} {p ts vs} (r : RepL K (upd H p (.tup vs)) (fun a => F a ∨ a = p) ts vs) : Rep K (upd H p (.tup vs)) (fun a => F a ∨ a = p) (.tuple ts) (.ref p) := by
  unfold Rep
  exact ⟨p, vs, rfl, .inl ⟨.inr rfl, .inl upd_same⟩, r⟩
theorem o_catF : Op2F C (binaryOp .Add) dCat := fun X g => OpR.imp op_catL fun x y H Q ⟨ft, F, a, b, r, hl, ra, rb, e, q⟩ => by
  cases a <;> cases b <;> simp only [dCat] at e <;> try (cases e; done)
  split at e
  · rename_i h
    cases e
    obtain ⟨p1, xs, rfl, h1, h2⟩ := ra
    obtain ⟨p2, ys, rfl, h3, h4⟩ := rb
    refine ⟨p1, p2, xs, ys, rfl, rfl, h1.sq, h3.sq, by rw [h2.length, h4.length, sl_eq]; exact h, fun p hp => ?_⟩
    obtain ⟨gr, np, ow⟩ := own_new hl hp (h2.append h4)
    exact q p _ F gr hp np ow
  · cases e
theorem dAdd_ev {a b r : D} (h : dAdd a b = some r) : (∃ i j, a = .int i ∧ b = .int j ∧ r = .int (i + j)) ∨ (∃ l m, a = .list l ∧ b = .list m ∧ l.length + m.length ≤ 16777216 ∧ r = .list (l ++ m)) ∨
    (∃ l m, a = .tuple l ∧ b = .tuple m ∧ l.length + m.length ≤ 16777216 ∧ r = .tuple (l ++ m)) ∨ ∃ l m, a = .str l ∧ b = .str m ∧ l.length + m.length ≤ 16777216 ∧ r = .str (l ++ m) := by
  cases a <;> cases b <;> simp only [dAdd] at h <;> try (cases h; done)
  · cases h; exact .inl ⟨_, _, rfl, rfl, rfl⟩
  · split at h
    · rename_i c; cases h; exact .inr (.inr (.inr ⟨_, _, rfl, rfl, c, rfl⟩))
    · cases h
  · split at h
    · rename_i c; cases h; exact .inr (.inl ⟨_, _, rfl, rfl, c, rfl⟩)
    · cases h
  · split at h
    · rename_i c; cases h; exact .inr (.inr (.inl ⟨_, _, rfl, rfl, c, rfl⟩))
    · cases h
theorem o_add : Op2 C (binaryOp .Add) dAdd := fun X g => OpR.imp (OpR.or op_add (OpR.or op_catL (OpR.or op_catA op_add_str))) fun x y H Q ⟨ft, F, a, b, r, hl, ra, rb, e, q⟩ => by
  rcases dAdd_ev e with ⟨i, j, rfl, rfl, rfl⟩ | ⟨l, m, rfl, rfl, h, rfl⟩ | ⟨l, m, rfl, rfl, h, rfl⟩ | ⟨l, m, rfl, rfl, h, rfl⟩
  · exact .inl ⟨i, j, RR.int ra, RR.int rb, q _ H F (Grow.rfl' hl) rep_int⟩
  · obtain ⟨p1, xs, rfl, h1, h2⟩ := ra
    obtain ⟨p2, ys, rfl, h3, h4⟩ := rb
    refine .inr (.inl ⟨p1, p2, xs, ys, rfl, rfl, h1.sq, h3.sq, by rw [h2.length, h4.length, sl_eq]; exact h, fun p hp => ?_⟩)
    obtain ⟨gr, rp⟩ := sh_new hl hp (h2.append h4) (.lst (xs ++ ys)) (.inl rfl)
    exact q _ _ _ gr (rep_lst rp)
  · have ra' : Rep X.K H F (.tuple l) x := ra
    have rb' : Rep X.K H F (.tuple m) y := rb
    have ra2 := ra'
    have rb2 := rb'
    unfold Rep at ra2 rb2
    obtain ⟨p1, xs, rfl, h1, h2⟩ := ra2
    obtain ⟨p2, ys, rfl, h3, h4⟩ := rb2
    refine .inr (.inr (.inl ⟨p1, p2, xs, ys, rfl, rfl, h1.sq, h3.sq, by rw [h2.length, h4.length, sl_eq]; exact h, fun e => ?_, fun _ e => ?_, fun _ _ p hp => ?_⟩))
    · have : l = [] := by
        have := h2.length
        rw [e] at this
        exact List.length_eq_zero_iff.mp this.symm
      subst this
      exact q _ H F (Grow.rfl' hl) (by simpa using rb')
    · have : m = [] := by
        have := h4.length
        rw [e] at this
        exact List.length_eq_zero_iff.mp this.symm
      subst this
      exact q _ H F (Grow.rfl' hl) (by simpa using ra')
    · obtain ⟨gr, rp⟩ := sh_new hl hp (h2.append h4) (.tup (xs ++ ys)) (.inr rfl)
      exact q _ _ _ gr (rep_tup rp)
  · have ra' : Rep X.K H F (.str l) x := ra
    have rb' : Rep X.K H F (.str m) y := rb
    unfold Rep at ra' rb'
    exact .inr (.inr (.inr ⟨l, m, ra', rb', by rw [sl_eq]; exact h, q _ H F (Grow.rfl' hl) (by unfold Rep; rfl)⟩))
/-- [..] * k -/
theorem qf_rep (hx : QF C N sc x zx) (hy : QR C N sc y zy) : QF C N sc (.BinOp x .Mult y pos) (.op2 dRep zx zy) := fun X G g n s =>
  (pe_op op_rep (hx X G g n s) (hy X G g n s)).wk fun σ H Q ⟨ft, F, env, st, r, st', I, ev, q⟩ => by
    obtain ⟨a, st1, b, e1, e2, e3⟩ := bin_ev ev
    cases a <;> cases b <;> simp only [dRep] at e3 <;> try (cases e3; done)
    split at e3
    · rename_i ts k h
      cases e3
      refine ⟨ft, F, env, st, _, st1, I, e1, fun p1 H1 F1 s1 I1 hp1 np1 ow1 => ⟨ft, F1, env, st1, _, st', I1, e2, fun v2 H2 F2 s2 I2 r2 => ?_⟩⟩
      obtain ⟨n1, n2, n3⟩ := I.hi.fresh hp1
      obtain ⟨xs, hx, rl⟩ := s2.own I1.hi n1 ow1
      obtain rfl := RR.int r2
      refine ⟨p1, k, xs, rfl, rfl, hx, h.1, h.2.1, by rw [rl.length, sl_eq]; exact h.2.2, fun p hp => ?_⟩
      have rr : RepL X.K H2 F2 (List.replicate k.toNat ts).flatten (List.replicate k.toNat xs).flatten := by
        induction k.toNat with
        | zero => exact RepL.nil
        | succ n ih =>
          rw [List.replicate_succ, List.replicate_succ, List.flatten_cons, List.flatten_cons]
          exact rl.append ih
      obtain ⟨gr, np, ow⟩ := own_new I2.hi.hl hp rr
      exact q p _ F2 ((s1.trans s2).trans gr.step) (I2.grow gr) ((s1.trans s2).bk0 hp) np ow
    · cases e3
/-- xs[i] -/
theorem atI_rep {K H F ts xs i t} (r : RepL K H F ts xs) (h : atI ts i = some t) : ∃ x, atI xs i = some x ∧ Rep K H F t x := by
  unfold atI at h ⊢
  rw [r.length]
  obtain ⟨j, e1, e2⟩ := bind_ev h
  obtain ⟨x, e3, e4⟩ := r.get e2
  exact ⟨x, by rw [e1]; exact e3, e4⟩
theorem qe_ix (hx : QR C N sc x zx) (hy : QR C N sc y zy) (hs : PlainIx y := by intro _ _; rfl) : QE C N sc (.Subscript x y pos) (.op2 dIx zx zy) := fun X G g n s =>
  (pe_ix (IxR.or ix_list ix_tup) (hx X G g n s) (hy X G g n s) hs).wk fun σ H Q h => by
    obtain ⟨ft, F, env, st, r, st', I, ev, q⟩ := h
    obtain ⟨a, st1, b, e1, e2, e3⟩ := bin_ev ev
    refine ⟨ft, F, env, st, a, st1, I, e1, fun v1 H1 F1 s1 I1 r1 => ⟨ft, F1, env, st1, b, st', I1, e2, fun v2 H2 F2 s2 I2 r2 => ?_⟩⟩
    have r1' := s2.rr I1.hi r1
    cases a <;> cases b <;> simp only [dIx] at e3 <;> try (cases e3; done)
    · rename_i ts i
      obtain ⟨p, xs, rfl, h1, h2⟩ := r1'
      obtain ⟨z, e4, rz⟩ := atI_rep h2 e3
      exact .inl ⟨p, xs, i, z, rfl, RR.int r2, h1.sq, e4, q _ H2 F2 (s1.trans s2) I2 rz⟩
    · rename_i ts i
      have r1'' : Rep X.K H2 F2 (.tuple ts) v1 := r1'
      unfold Rep at r1''
      obtain ⟨p, xs, rfl, h1, h2⟩ := r1''
      obtain ⟨z, e4, rz⟩ := atI_rep h2 e3
      exact .inr ⟨p, xs, i, z, rfl, RR.int r2, h1.sq, e4, q _ H2 F2 (s1.trans s2) I2 rz⟩

/-! ### builtins -/
def dLen : List D → Option D
  | [.list ts] => some (.int ts.length)
  | [.tuple ts] => some (.int ts.length)
  | _ => none
theorem dLen_ev {l : List D} {r : D} (h : dLen l = some r) : (∃ ts, l = [.list ts] ∧ r = .int ts.length) ∨ ∃ ts, l = [.tuple ts] ∧ r = .int ts.length := by
  unfold dLen at h
  split at h
  · cases h; exact .inl ⟨_, rfl, rfl⟩
  · cases h; exact .inr ⟨_, rfl, rfl⟩
  · cases h
theorem c_len : OpC C (.builtin "len") dLen := fun X g => CallR.imp call_len_seq fun xs H Q ⟨ft, F, ts, r, hl, rr, e, q⟩ => by
  rcases dLen_ev e with ⟨us, rfl, rfl⟩ | ⟨us, rfl, rfl⟩
  · obtain ⟨x, rfl, p, ys, rfl, h1, h2⟩ := RRs.one rr
    exact ⟨p, ys, rfl, .inl h1.sq, by rw [h2.length]; exact q _ H F (Grow.rfl' hl) rep_int⟩
  · obtain ⟨x, rfl, h0⟩ := RRs.one rr
    have h0' : Rep X.K H F (.tuple us) x := h0
    unfold Rep at h0'
    obtain ⟨p, ys, rfl, h1, h2⟩ := h0'
    exact ⟨p, ys, rfl, .inr h1.sq, by rw [h2.length]; exact q _ H F (Grow.rfl' hl) rep_int⟩
def dAbs : List D → Option D
  | [.int i] => some (.int (if i < 0 then -i else i))
  | _ => none
theorem c_abs : OpC C (.builtin "abs") dAbs := fun X g => CallR.imp call_abs fun xs H Q ⟨ft, F, ts, r, hl, rr, e, q⟩ => by
  unfold dAbs at e
  split at e
  · cases e
    obtain ⟨x, rfl, h0⟩ := RRs.one rr
    exact ⟨_, by rw [RR.int h0], q _ H F (Grow.rfl' hl) rep_int⟩
  · cases e
def dInt : List D → Option D
  | [.int i] => some (.int i)
  | [.bool b] => some (.int (if b then 1 else 0))
  | _ => none
theorem c_int : OpC C (.type "int") dInt := fun X g => CallR.imp call_int1 fun xs H Q ⟨ft, F, ts, r, hl, rr, e, q⟩ => by
  unfold dInt at e
  split at e
  · cases e
    obtain ⟨x, rfl, h0⟩ := RRs.one rr
    exact .inl ⟨_, by rw [RR.int h0], q _ H F (Grow.rfl' hl) rep_int⟩
  · cases e
    obtain ⟨x, rfl, h0⟩ := RRs.one rr
    exact .inr ⟨_, by rw [RR.bool h0], q _ H F (Grow.rfl' hl) rep_int⟩
  · cases e
def dMax2 : List D → Option D
  | [.int i, .int j] => some (.int (if j > i then j else i))
  | _ => none
def dMin2 : List D → Option D
  | [.int i, .int j] => some (.int (if j < i then j else i))
  | _ => none
theorem c_max2 : OpC C (.builtin "max") dMax2 := fun X g => CallR.imp (call_max2 g.calm) fun xs H Q ⟨ft, F, ts, r, hl, rr, e, q⟩ => by
  unfold dMax2 at e
  split at e
  · cases e
    obtain ⟨x, y, rfl, h0, h1⟩ := RRs.two rr
    exact ⟨_, _, by rw [RR.int h0, RR.int h1], q _ H F (Grow.rfl' hl) rep_int⟩
  · cases e
theorem c_min2 : OpC C (.builtin "min") dMin2 := fun X g => CallR.imp (call_min2 g.calm) fun xs H Q ⟨ft, F, ts, r, hl, rr, e, q⟩ => by
  unfold dMin2 at e
  split at e
  · cases e
    obtain ⟨x, y, rfl, h0, h1⟩ := RRs.two rr
    exact ⟨_, _, by rw [RR.int h0, RR.int h1], q _ H F (Grow.rfl' hl) rep_int⟩
  · cases e
def dList : List D → Option D
  | [.list ts] => some (.list ts)
  | [.tuple ts] => some (.list ts)
  | _ => none
theorem c_list : OpCF C (.type "list") dList := fun X g => CallR.imp call_list_of fun xs H Q ⟨ft, F, ts, r, hl, rr, e, q⟩ => by
  unfold dList at e
  split at e
  · cases e
    obtain ⟨x, rfl, p, ys, rfl, h1, h2⟩ := RRs.one rr
    refine ⟨p, ys, rfl, .inl h1.sq, fun l hp => ?_⟩
    obtain ⟨gr, np, ow⟩ := own_new hl hp h2
    exact q l _ F gr hp np ow
  · cases e
    obtain ⟨x, rfl, h0⟩ := RRs.one rr
    have h0' : Rep X.K H F (.tuple _) x := h0
    unfold Rep at h0'
    obtain ⟨p, ys, rfl, h1, h2⟩ := h0'
    refine ⟨p, ys, rfl, .inr h1.sq, fun l hp => ?_⟩
    obtain ⟨gr, np, ow⟩ := own_new hl hp h2
    exact q l _ F gr hp np ow
  · cases e
def dTuple : List D → Option D
  | [.list ts] => some (.tuple ts)
  | [.tuple ts] => some (.tuple ts)
  | _ => none
theorem c_tuple : OpC C (.type "tuple") dTuple := fun X g => CallR.imp call_tuple_of fun xs H Q ⟨ft, F, ts, r, hl, rr, e, q⟩ => by
  unfold dTuple at e
  split at e
  · cases e
    obtain ⟨x, rfl, p, ys, rfl, h1, h2⟩ := RRs.one rr
    refine ⟨p, ys, rfl, .inl ⟨h1.sq, fun l hp => ?_⟩⟩
    obtain ⟨gr, rp⟩ := sh_new hl hp h2 (.tup ys) (.inr rfl)
    exact q _ _ _ gr (rep_tup rp)
  · cases e
    obtain ⟨x, rfl, h0⟩ := RRs.one rr
    have h0' : Rep X.K H F (.tuple _) x := h0
    have h0'' := h0'
    unfold Rep at h0''
    obtain ⟨p, ys, rfl, h1, h2⟩ := h0''
    exact ⟨p, ys, rfl, .inr ⟨h1.sq, q _ H F (Grow.rfl' hl) h0'⟩⟩
  · cases e
end Z
namespace Z
open PySem PySem.Spec PyProof.Rows L2
variable {C : Ct} {N : List Str} {sc : Scope} {x y w : Expr} {z zx zy zw zc ze : ZE} {pos : Pos} {es : List Expr} {M : Md} {tg tr : Tg} {s : Stmt} {ss : List Stmt} {q q1 q2 : ZS}

/-! ### slices -/
def dPart : D → Option (Option Int)
  | .none => some none
  | .int i => some (some i)
  | _ => none
def cutD (ts : List D) (lo hi : Option Int) : List D := (ts.drop (HT.sIx ts.length 0 lo)).take (HT.sIx ts.length ts.length hi - HT.sIx ts.length 0 lo)
def dSliceL (t a b : D) : Option D := match t with
  | .list ts => (dPart a).bind fun lo => (dPart b).map fun hi => .list (cutD ts lo hi)
  | _ => none
def dSliceT (t a b : D) : Option D := match t with
  | .tuple ts => (dPart a).bind fun lo => (dPart b).map fun hi => .tuple (cutD ts lo hi)
  | _ => none
def rdO (K : PySem.W.Frag) (G : Act) (z : ZE) : TO := fun σ H Q => ∃ ft F env st d o st', ZI K G ft σ H F env st ∧ evE z env st = some (d, st') ∧ dPart d = some o ∧ ∀ H' F', Step ft H F H' F' → ZI K G ft σ H' F' env st' → Q o H'
def QO (C : Ct) (N : List Str) (sc : Scope) (e : Option Expr) (z : ZE) : Prop := ∀ X G, Good C X → X.N = N → X.env.scope = sc → PO X e (rdO X.K G z)
theorem _root_.L2.PO.wk {X : Cx} {e : Option Expr} {t t' : TO} (h : PO X e t) (w : ∀ σ H Q, t' σ H Q → t σ H Q) : PO X e t' := ⟨fun pins s σ H Q I q => h.run pins s σ H Q I (w σ H Q q)⟩
theorem qo_none : QO C N sc none (.cst .none) := fun X G g n s => PO.wk po_none fun σ H Q ⟨ft, F, env, st, d, o, st', I, ev, e, q⟩ => by
  unfold evE at ev
  cases ev
  cases e
  exact q H F .refl I
def dIntO : D → Option D
  | .int i => some (.int i)
  | _ => none
theorem qo_some (h : QE C N sc x z) : QO C N sc (some x) (.op1 dIntO z) := fun X G g n s => (po_some (h X G g n s)).wk fun σ H Q ⟨ft, F, env, st, d, o, st', I, ev, e, q⟩ => by
  obtain ⟨a, e1, e3⟩ := un_ev ev
  cases a <;> simp [dIntO] at e3
  subst e3
  refine ⟨ft, F, env, st, _, st', I, e1, fun v H' F' s I' rp => ?_⟩
  simp [dPart] at e
  subst e
  unfold Rep at rp
  exact ⟨_, rp, q H' F' s I'⟩
theorem op3_ev {f : D → D → D → Option D} {env : Env} {st st' : SD} {r : D} (ev : evE (.op3 f zx zy zw) env st = some (r, st')) : ∃ a st1 b st2 c, evE zx env st = some (a, st1) ∧ evE zy env st1 = some (b, st2) ∧ evE zw env st2 = some (c, st') ∧ f a b c = some r := by
  unfold evE at ev
  obtain ⟨⟨a, st1⟩, e1, ev⟩ := bind_ev ev
  obtain ⟨⟨b, st2⟩, e2, ev⟩ := bind_ev ev
  obtain ⟨⟨c, st3⟩, e3, ev⟩ := bind_ev ev
  obtain ⟨r', e4, ev⟩ := map_ev ev
  cases ev
  exact ⟨a, st1, b, st2, c, e1, e2, e3, e4⟩
theorem cut_rep {K H F ts xs lo hi} (r : RepL K H F ts xs) : RepL K H F (cutD ts lo hi) (cutV xs lo hi) := by
  unfold cutD cutV
  rw [r.length]
  exact (r.drop _).take _
/-- a list's slice -/
theorem qf_slice {lo hi : Option Expr} {p2 : Pos} (hx : QR C N sc x zx) (hl : QO C N sc lo zy) (hh : QO C N sc hi zw) : QF C N sc (.Subscript x (.Slice lo hi none p2) pos) (.op3 dSliceL zx zy zw) := fun X G g n s =>
  (pe_slice sl_list (hx X G g n s) (hl X G g n s) (hh X G g n s)).wk fun σ H Q ⟨ft, F, env, st, r, st', I, ev, q⟩ => by
    obtain ⟨a, st1, b, st2, c, e1, e2, e3, e4⟩ := op3_ev ev
    cases a <;> simp only [dSliceL] at e4 <;> try (cases e4; done)
    rename_i ts
    obtain ⟨l, e5, e4⟩ := bind_ev e4
    obtain ⟨u, e6, rfl⟩ := map_ev e4
    refine ⟨ft, F, env, st, _, st1, I, e1, fun v1 H1 F1 s1 I1 r1 => ⟨ft, F1, env, st1, b, l, st2, I1, e2, e5, fun H2 F2 s2 I2 => ⟨ft, F2, env, st2, c, u, st', I2, e3, e6, fun H3 F3 s3 I3 => ?_⟩⟩⟩
    obtain ⟨p, xs, rfl, h1, h2⟩ := s3.rr I2.hi (s2.rr I1.hi r1)
    refine ⟨p, xs, rfl, h1.sq, fun p' hp => ?_⟩
    obtain ⟨gr, np, ow⟩ := own_new I3.hi.hl hp (cut_rep h2)
    exact q p' _ F3 (((s1.trans s2).trans s3).trans gr.step) (I3.grow gr) (((s1.trans s2).trans s3).bk0 hp) np ow
theorem cut_whole {ts : List D} {lo hi : Option Int} (h : HT.sIx ts.length 0 lo = 0 ∧ HT.sIx ts.length ts.length hi = ts.length) : cutD ts lo hi = ts := by
  unfold cutD
  rw [h.1, h.2]
  simp
/-- a tuple's slice -/
theorem qe_sliceT {lo hi : Option Expr} {p2 : Pos} (hx : QR C N sc x zx) (hl : QO C N sc lo zy) (hh : QO C N sc hi zw) : QE C N sc (.Subscript x (.Slice lo hi none p2) pos) (.op3 dSliceT zx zy zw) := fun X G g n s =>
  (pe_slice sl_tupA (hx X G g n s) (hl X G g n s) (hh X G g n s)).wk fun σ H Q ⟨ft, F, env, st, r, st', I, ev, q⟩ => by
    obtain ⟨a, st1, b, st2, c, e1, e2, e3, e4⟩ := op3_ev ev
    cases a <;> simp only [dSliceT] at e4 <;> try (cases e4; done)
    rename_i ts
    obtain ⟨l, e5, e4⟩ := bind_ev e4
    obtain ⟨u, e6, rfl⟩ := map_ev e4
    refine ⟨ft, F, env, st, _, st1, I, e1, fun v1 H1 F1 s1 I1 r1 => ⟨ft, F1, env, st1, b, l, st2, I1, e2, e5, fun H2 F2 s2 I2 => ⟨ft, F2, env, st2, c, u, st', I2, e3, e6, fun H3 F3 s3 I3 => ?_⟩⟩⟩
    have r3 : Rep X.K H3 F3 (.tuple ts) v1 := s3.rr I2.hi (s2.rr I1.hi r1)
    have r3' := r3
    unfold Rep at r3'
    obtain ⟨p, xs, rfl, h1, h2⟩ := r3'
    refine ⟨p, xs, rfl, h1.sq, fun hw => ?_, fun _ p' hp => ?_⟩
    · rw [h2.length] at hw
      rw [cut_whole hw] at q
      exact q _ H3 F3 ((s1.trans s2).trans s3) I3 r3
    · obtain ⟨gr, rp⟩ := sh_new I3.hi.hl hp (cut_rep (lo := l) (hi := u) h2) (.tup (cutV xs l u)) (.inr rfl)
      exact q _ _ _ (((s1.trans s2).trans s3).trans gr.step) (I3.grow gr) (rep_tup rp)
/-- xs[::-1] of a list -/
theorem qf_rev {k : Nat} {p1 p2 p3 : Pos} (hx : QR C N sc x zx) : QF C N sc (.Subscript x (.Slice none none (some (.UnaryOp .USub (.Constant (.int 1) k p1) p2)) p3) pos) (.op1 dRev zx) := fun X G g n s =>
  (pe_revL (hx X G g n s)).wk fun σ H Q ⟨ft, F, env, st, r, st', I, ev, q⟩ => by
    obtain ⟨a, e1, e3⟩ := un_ev ev
    cases a <;> simp [dRev] at e3
    subst e3
    refine ⟨ft, F, env, st, _, st', I, e1, fun v1 H1 F1 s1 I1 r1 => ?_⟩
    obtain ⟨p, xs, rfl, h1, h2⟩ := r1
    refine ⟨p, xs, rfl, h1.sq, fun p' hp => ?_⟩
    obtain ⟨gr, np, ow⟩ := own_new I1.hi.hl hp h2.reverse
    exact q p' _ F1 (s1.trans gr.step) (I1.grow gr) (s1.bk0 hp) np ow

/-! ### chains of comparisons -/
theorem chain_ev {f g : D → D → Option D} {env : Env} {st st' : SD} {r : D} (ev : evE (.chain f g zx zy zw) env st = some (r, st')) :
    ∃ a st1 b st2 c, evE zx env st = some (a, st1) ∧ evE zy env st1 = some (b, st2) ∧ f a b = some (.bool c) ∧ if c = true then ∃ d, evE zw env st2 = some (d, st') ∧ g b d = some r else r = .bool false ∧ st' = st2 := by
  unfold evE at ev
  obtain ⟨⟨a, st1⟩, e1, ev⟩ := bind_ev ev
  obtain ⟨⟨b, st2⟩, e2, ev⟩ := bind_ev ev
  obtain ⟨c, e3, ev⟩ := bind_ev ev
  cases c <;> simp only at ev <;> try (cases ev; done)
  rename_i c
  refine ⟨a, st1, b, st2, c, e1, e2, e3, ?_⟩
  cases c with
  | false => simp at ev ⊢; exact ⟨ev.1.symm, ev.2.symm⟩
  | true =>
    simp only [if_true] at ev ⊢
    obtain ⟨⟨d, st3⟩, e4, ev⟩ := bind_ev ev
    obtain ⟨r', e5, ev⟩ := map_ev ev
    cases ev
    exact ⟨d, e4, e5⟩
theorem rd_chain {K : PySem.W.Frag} {G : Act} {f g : D → D → Option D} {σ : L2.St} {H : Hp} {Q : VK} (h : rdE K G (.chain f g zx zy zw) σ H Q) : tChain (rop K f) (rop K g) (rdR K G zx) (rdR K G zy) (rdR K G zw) σ H Q := by
  obtain ⟨ft, F, env, st, r, st', I, ev, q⟩ := h
  obtain ⟨a, st1, b, st2, c, e1, e2, e3, e4⟩ := chain_ev ev
  refine ⟨ft, F, env, st, a, st1, I, e1, fun v1 H1 F1 s1 I1 r1 => ⟨ft, F1, env, st1, b, st2, I1, e2, fun v2 H2 F2 s2 I2 r2 => ⟨ft, F2, a, b, .bool c, I2.hi.hl, s2.rr I1.hi r1, r2, e3, fun v3 H3 F3 g3 r3 => ?_⟩⟩⟩
  unfold Rep at r3
  refine ⟨c, r3, ?_⟩
  have I3 := I2.grow g3
  have s3 := (s1.trans s2).trans g3.step
  cases c with
  | false =>
    simp only [Bool.false_eq_true, if_false] at e4 ⊢
    obtain ⟨rfl, rfl⟩ := e4
    exact q _ H3 F3 s3 I3 rep_bool
  | true =>
    simp only [if_true] at e4 ⊢
    obtain ⟨d, e5, e6⟩ := e4
    refine ⟨ft, F3, env, st2, d, st', I3, e5, fun v4 H4 F4 s4 I4 r4 => ⟨ft, F4, b, d, r, I4.hi.hl, s4.rr I3.hi (g3.step.rr I2.hi r2), r4, e6, fun v H' F' gr rp => q v H' F' ((s3.trans s4).trans gr.step) (I4.grow gr) rp⟩⟩
theorem qe_chain {op op' : CmpOp} {f g : D → D → Option D} (ho : Op2 C (compareOp op) f) (ho' : Op2 C (compareOp op') g) (hx : QR C N sc x zx) (hy : QR C N sc y zy) (hw : QR C N sc w zw) (hm : lastMarks [op, op'] [y, w] = false := by with_unfolding_all rfl) :
    QE C N sc (.Compare x [op, op'] [y, w] pos) (.chain f g zx zy zw) := fun X G gd n s => (pe_chain (ho X gd) (ho' X gd) (hx X G gd n s) (hy X G gd n s) (hw X G gd n s) hm).wk fun σ H Q h => rd_chain h
theorem qt_chain {op op' : CmpOp} {f g : D → D → Option D} (ho : Op2 C (compareOp op) f) (ho' : Op2 C (compareOp op') g) (hx : QR C N sc x zx) (hy : QR C N sc y zy) (hw : QR C N sc w zw) (hm : lastMarks [op, op'] [y, w] = false := by with_unfolding_all rfl) :
    QT C N sc (.Compare x [op, op'] [y, w] pos) (.chain f g zx zy zw) := fun X G gd n s => (pt_chain (ho X gd) (ho' X gd) (hx X G gd n s) (hy X G gd n s) (hw X G gd n s) (hm)).wk fun σ H Q ⟨ft, F, env, st, b, st', I, ev, q⟩ => by
      refine rd_chain (Q := fun v H' => ∃ k, v = .bl k ∧ Q k H') ⟨ft, F, env, st, .bool b, st', I, ev, fun v H' F' s I' rp => ?_⟩
      unfold Rep at rp
      exact ⟨b, rp, q H' F' s I'⟩

/-! ### isinstance -/
def tyD : D → String
  | .none => "NoneType"
  | .bool _ => "bool"
  | .int _ => "int"
  | .str _ => "str"
  | .list _ => "list"
  | .tuple _ => "tuple"
  | .dict _ => "dict"
def isiB (a b : String) : Bool := a == b || (a == "bool" && b == "int")
def tys : List String := ["NoneType", "bool", "int", "str", "list", "tuple", "dict"]
theorem tyD_mem : ∀ d : D, tyD d ∈ tys := by intro d; cases d <;> simp [tyD, tys]
theorem rep_ty {K H F t v} (h : Rep K H F t v) : TyX K H v (.type (tyD t)) := by
  cases t with
  | none => unfold Rep at h; subst h; exact .base .non
  | bool b => unfold Rep at h; subst h; exact .base (.bl b)
  | int i => unfold Rep at h; subst h; exact .base (.int i)
  | str x => unfold Rep at h; subst h; exact .base (.str x)
  | list ts =>
    unfold Rep at h
    obtain ⟨a, xs, rfl, h1, _⟩ := h
    rcases h1 with ⟨_, h | ⟨o, h⟩⟩ | ⟨o, its, n, hk, hc, _⟩
    · exact .base (.lst h)
    · exact .base (.frz h)
    · exact .kList hk hc
  | tuple ts =>
    unfold Rep at h
    obtain ⟨a, xs, rfl, h1, _⟩ := h
    rcases h1 with ⟨_, h | ⟨o, h⟩⟩ | ⟨o, its, n, hk, hc, _⟩
    · exact .base (.tup h)
    · exact .fTuple h
    · exact .kTuple hk hc
  | dict kvs =>
    unfold Rep at h
    obtain ⟨a, ys, rfl, _, h1, _⟩ := h
    exact .base (.dK h1)
theorem rr_ty {K ft H F t v} (h : RR K ft H F t v) : TyX K H v (.type (tyD t)) := by
  cases t with
  | list ts =>
    obtain ⟨a, xs, rfl, h1, _⟩ := h
    rcases h1 with ⟨_, h | ⟨o, h⟩⟩ | ⟨o, its, n, hk, hc, _⟩
    · exact .base (.lst h)
    · exact .base (.frz h)
    · exact .kList hk hc
  | dict kvs =>
    obtain ⟨a, ys, rfl, _, h1, _⟩ := h
    exact .base (.dK h1)
  | none => exact rep_ty (K := K) (H := H) (F := F) h
  | bool b => exact rep_ty (K := K) (H := H) (F := F) h
  | int i => exact rep_ty (K := K) (H := H) (F := F) h
  | str x => exact rep_ty (K := K) (H := H) (F := F) h
  | tuple ts => exact rep_ty (K := K) (H := H) (F := F) h
def dIsi (T : String) : D → Option D := fun d => some (.bool (isiB (tyD d) T))
def dIsi2 (T U : String) : D → Option D := fun d => some (.bool (isiB (tyD d) T || isiB (tyD d) U))
def tyOk (T : String) : Bool := tys.all fun a => decide (kitB a T = some (isiB a T))
theorem ok_list : tyOk "list" = true := by decide +kernel
theorem ok_tuple : tyOk "tuple" = true := by decide +kernel
theorem ok_str : tyOk "str" = true := by decide +kernel
theorem ok_bool : tyOk "bool" = true := by decide +kernel
theorem ok_int : tyOk "int" = true := by decide +kernel
theorem ok_kit {T : String} (h : tyOk T = true) (d : D) : kitB (tyD d) T = some (isiB (tyD d) T) := of_decide_eq_true (List.all_eq_true.mp h _ (tyD_mem d))
theorem qe_isi {tn : Str} {T : String} {p tp : Pos} (hok : tyOk T = true) (hb : ("isinstance" : Str) ∈ C.blts) (hbt : tn ∈ C.blts) (hv : bootBuiltins tn = some (.type T)) (hx : QR C N sc x z) (hg : sc.names.lookup ("isinstance" : Str) = some .globalImplicit := by rfl) (hgt : sc.names.lookup tn = some .globalImplicit := by rfl)
    (hn : tn ≠ "__name__" := by decide) (hdb : (tn == ("__debug__" : Str)) = false := by decide)
    (hs1 : ∀ env : PySem.Env, starEach [x, .Name tn tp] env = (false, eval x env) :: starEach [.Name tn tp] env := by intro _; rfl) (hs2 : ∀ env : PySem.Env, starEach [.Name tn tp] env = (false, eval (.Name tn tp) env) :: starEach [] env := by intro _; rfl)
    (hpl : ∀ env : PySem.Env, (backTo pos (starEach [.Name tn tp] env)).any (·.1) = false := by intro _; rfl) : QE C N sc (.Call (.Name "isinstance" p) [x, .Name tn tp] [] pos) (.op1 (dIsi T) z) := fun X G g n s =>
  (pe_callB call_isi (gl_of s hg) (g.blt _ hb) PyProof.Rows.boot_isinstance (pa_cons (hx X G g n s) (pa_cons (pe_bltn (v := .ty T) (gl_of s hgt) (g.blt _ hbt) hv rfl hn hdb) pa_nil (hs2 _)) (hs1 _)) (by decide) (by decide) (hs1 _) (hpl _)).wk fun σ H Q ⟨ft, F, env, st, r, st', I, ev, q⟩ => by
    obtain ⟨a, e1, e3⟩ := un_ev ev
    cases e3
    refine ⟨ft, F, env, st, a, st', I, e1, fun v1 H1 F1 s1 I1 r1 => ?_⟩
    exact ⟨v1, .ty T, .type (tyD a), .type T, isiB (tyD a) T, rfl, .ty T, rr_ty r1, kit_ty (ok_kit hok a), q _ H1 F1 s1 I1 rep_bool⟩
/-- isinstance(x, (T, U)) -/
theorem qe_isi2 {tn un : Str} {T U : String} {kk : Nat} {p tp up pp : Pos} (hok : tyOk T = true) (hok2 : tyOk U = true) (hb : ("isinstance" : Str) ∈ C.blts) (hbt : tn ∈ C.blts) (hbu : un ∈ C.blts) (hv : bootBuiltins tn = some (.type T)) (hu : bootBuiltins un = some (.type U)) (hx : QR C N sc x z)
    (hg : sc.names.lookup ("isinstance" : Str) = some .globalImplicit := by rfl) (hgt : sc.names.lookup tn = some .globalImplicit := by rfl) (hgu : sc.names.lookup un = some .globalImplicit := by rfl)
    (hn : tn ≠ "__name__" := by decide) (hdb : (tn == ("__debug__" : Str)) = false := by decide) (hn2 : un ≠ "__name__" := by decide) (hdb2 : (un == ("__debug__" : Str)) = false := by decide)
    (hs1 : ∀ env : PySem.Env, starEach [x, .Tuple [.Name tn tp, .Name un up] kk pp] env = (false, eval x env) :: starEach [.Tuple [.Name tn tp, .Name un up] kk pp] env := by intro _; rfl) (hs2 : ∀ env : PySem.Env, starEach [.Tuple [.Name tn tp, .Name un up] kk pp] env = (false, eval (.Tuple [.Name tn tp, .Name un up] kk pp) env) :: starEach [] env := by intro _; rfl)
    (hs3 : ∀ env : PySem.Env, starEach [.Name tn tp, .Name un up] env = (false, eval (.Name tn tp) env) :: starEach [.Name un up] env := by intro _; rfl) (hs4 : ∀ env : PySem.Env, starEach [.Name un up] env = (false, eval (.Name un up) env) :: starEach [] env := by intro _; rfl)
    (hpl : ∀ env : PySem.Env, (backTo pos (starEach [.Tuple [.Name tn tp, .Name un up] kk pp] env)).any (·.1) = false := by intro _; rfl) : QE C N sc (.Call (.Name "isinstance" p) [x, .Tuple [.Name tn tp, .Name un up] kk pp] [] pos) (.op1 (dIsi2 T U) z) := fun X G g n s =>
  (pe_callB call_isiT (gl_of s hg) (g.blt _ hb) PyProof.Rows.boot_isinstance (pa_cons (hx X G g n s) (pa_cons (pe_tup (pa_cons (pe_bltn (v := .ty T) (gl_of s hgt) (g.blt _ hbt) hv rfl hn hdb) (pa_cons (pe_bltn (v := .ty U) (gl_of s hgu) (g.blt _ hbu) hu rfl hn2 hdb2) pa_nil (hs4 _)) (hs3 _))) pa_nil (hs2 _)) (hs1 _)) (by decide) (by decide) (hs1 _) (hpl _)).wk fun σ H Q ⟨ft, F, env, st, r, st', I, ev, q⟩ => by
    obtain ⟨a, e1, e3⟩ := un_ev ev
    cases e3
    refine ⟨ft, F, env, st, a, st', I, e1, fun v1 H1 F1 s1 I1 r1 => ⟨by show 2 ≤ sizeLine; decide, fun t ht => ?_⟩⟩
    have gr : Grow H1 F1 (upd H1 t (.tup [.ty T, .ty U])) F1 := Grow.own I1.hi ht
    have I2 := I1.grow gr
    refine ⟨v1, t, [.ty T, .ty U], .type (tyD a), [.type T, .type U], _, rfl, upd_same, .cons (.ty T) (.cons (.ty U) .nil), rr_ty (gr.step.rr I1.hi r1), ?_, q _ _ F1 (s1.trans gr.step) I2 rep_bool⟩
    have k1 : PySem.W.kitOne X.K (.type (tyD a)) (.type T) = some (isiB (tyD a) T) := kit_ty (ok_kit hok a)
    have k2 : PySem.W.kitOne X.K (.type (tyD a)) (.type U) = some (isiB (tyD a) U) := kit_ty (ok_kit hok2 a)
    refine kitAny_cons k1 (fun e => ?_) fun e => by rw [e]; rfl
    rw [e, Bool.false_or]
    refine kitAny_cons k2 (fun e => ?_) fun e => e
    rw [e]
    rfl
/-- all([..]), any([..]) of truth values -/
def dAllB : List D → Option D
  | [.list ts] => if ts.all (fun t => match t with | .bool _ => true | _ => false) then some (.bool (ts.all fun t => match t with | .bool b => b | _ => false)) else none
  | _ => none
def dAnyB : List D → Option D
  | [.list ts] => if ts.all (fun t => match t with | .bool _ => true | _ => false) then some (.bool (ts.any fun t => match t with | .bool b => b | _ => false)) else none
  | _ => none
theorem bools_of : ∀ {ts : List D}, ts.all (fun t => match t with | .bool _ => true | _ => false) = true → ∃ bs : List Bool, ts = bs.map PyData.bool
  | [], _ => ⟨[], rfl⟩
  | t :: ts, h => by
    simp only [List.all_cons, Bool.and_eq_true] at h
    obtain ⟨bs, e⟩ := bools_of h.2
    cases t <;> simp at h
    rename_i b
    exact ⟨b :: bs, by rw [e]; rfl⟩
theorem RepL.bools {K H F} : ∀ {bs : List Bool} {xs : List V}, RepL K H F (bs.map PyData.bool) xs → xs = bs.map V.bl
  | [], xs, h => by simpa [RepL] using h
  | b :: bs, xs, h => by
    rw [List.map_cons] at h
    unfold RepL at h
    obtain ⟨x, zs, e, h1, h2⟩ := h
    subst e
    unfold Rep at h1
    rw [h1, RepL.bools h2, List.map_cons]
theorem c_all : OpC C (.builtin "all") dAllB := fun X g => CallR.imp (cr_all g.calm) fun xs H Q ⟨ft, F, ts, r, hl, rr, e, q⟩ => by
  unfold dAllB at e
  split at e
  · split at e
    · rename_i hb
      cases e
      obtain ⟨bs, rfl⟩ := bools_of hb
      obtain ⟨x, rfl, p, ys, rfl, h1, h2⟩ := RRs.one rr
      obtain rfl := RepL.bools h2
      refine ⟨p, bs, rfl, h1.sq, ?_⟩
      have := q _ H F (Grow.rfl' hl) rep_bool
      rw [List.all_map] at this
      exact this
    · cases e
  · cases e
theorem c_any : OpC C (.builtin "any") dAnyB := fun X g => CallR.imp (cr_any g.calm) fun xs H Q ⟨ft, F, ts, r, hl, rr, e, q⟩ => by
  unfold dAnyB at e
  split at e
  · split at e
    · rename_i hb
      cases e
      obtain ⟨bs, rfl⟩ := bools_of hb
      obtain ⟨x, rfl, p, ys, rfl, h1, h2⟩ := RRs.one rr
      obtain rfl := RepL.bools h2
      refine ⟨p, bs, rfl, h1.sq, ?_⟩
      have := q _ H F (Grow.rfl' hl) rep_bool
      rw [List.any_map] at this
      exact this
    · cases e
  · cases e
/-! ### ints in lists: sum, max, min, sorted -/
def isInts (ts : List D) : Bool := ts.all fun t => match t with | .int _ => true | _ => false
def toInts (ts : List D) : List Int := ts.map fun t => match t with | .int i => i | _ => 0
theorem ints_of {ts : List D} (h : isInts ts = true) : ts = (toInts ts).map PyData.int := by
  unfold isInts at h
  unfold toInts
  rw [List.map_map]
  apply List.ext_getElem?
  intro i
  rw [List.getElem?_map]
  cases e : ts[i]? with
  | none => rfl
  | some t =>
    have m := List.all_eq_true.mp h t (List.mem_of_getElem? e)
    cases t <;> simp at m
    rfl
theorem toInts_map (ns : List Int) : toInts (ns.map PyData.int) = ns := by
  unfold toInts
  rw [List.map_map]
  show ns.map (fun i => i) = ns
  simp
theorem isInts_map (ns : List Int) : isInts (ns.map PyData.int) = true := by
  unfold isInts
  rw [List.all_map]
  simp
def dSum : List D → Option D
  | [.list ts] => if isInts ts then some (.int (toInts ts).sum) else none
  | _ => none
theorem c_sum : OpC C (.builtin "sum") dSum := fun X g => CallR.imp (cr_sum g.calm) fun xs H Q ⟨ft, F, ts, r, hl, rr, e, q⟩ => by
  unfold dSum at e
  split at e
  · split at e
    · rename_i us hb
      cases e
      obtain ⟨x, rfl, p, ys, rfl, h1, h2⟩ := RRs.one rr
      rw [ints_of hb] at h2
      obtain rfl := RepL.ints h2
      exact ⟨p, _, rfl, h1.sq, q _ H F (Grow.rfl' hl) rep_int⟩
    · cases e
  · cases e
def lMax (ns : List Int) : Int := ns.foldl max (ns.headD 0)
def lMin (ns : List Int) : Int := ns.foldl min (ns.headD 0)
theorem foldmax : ∀ (ns : List Int) (a : Int), (∀ y ∈ ns, y ≤ ns.foldl max a) ∧ a ≤ ns.foldl max a ∧ (ns.foldl max a = a ∨ ns.foldl max a ∈ ns)
  | [], a => ⟨by simp, Int.le_refl a, .inl rfl⟩
  | n :: ns, a => by
    obtain ⟨h1, h2, h3⟩ := foldmax ns (max a n)
    simp only [List.foldl_cons]
    refine ⟨fun y hy => ?_, by omega, ?_⟩
    · simp at hy
      rcases hy with rfl | hy
      · omega
      · exact h1 y hy
    · rcases h3 with h3 | h3
      · rw [h3]
        by_cases h : a ≤ n
        · right; rw [Int.max_eq_right h]; simp
        · left; rw [Int.max_eq_left (by omega)]
      · right; simp [h3]
theorem foldmin : ∀ (ns : List Int) (a : Int), (∀ y ∈ ns, ns.foldl min a ≤ y) ∧ ns.foldl min a ≤ a ∧ (ns.foldl min a = a ∨ ns.foldl min a ∈ ns)
  | [], a => ⟨by simp, Int.le_refl a, .inl rfl⟩
  | n :: ns, a => by
    obtain ⟨h1, h2, h3⟩ := foldmin ns (min a n)
    simp only [List.foldl_cons]
    refine ⟨fun y hy => ?_, by omega, ?_⟩
    · simp at hy
      rcases hy with rfl | hy
      · omega
      · exact h1 y hy
    · rcases h3 with h3 | h3
      · rw [h3]
        by_cases h : a ≤ n
        · left; rw [Int.min_eq_left h]
        · right; rw [Int.min_eq_right (by omega)]; simp
      · right; simp [h3]
theorem lMax_ge {ns : List Int} {y : Int} (h : y ∈ ns) : y ≤ lMax ns := (foldmax ns _).1 y h
theorem lMax_mem {ns : List Int} (h : ns ≠ []) : lMax ns ∈ ns := by
  cases ns with
  | nil => exact absurd rfl h
  | cons n ns => rcases (foldmax (n :: ns) n).2.2 with q | q <;> (unfold lMax; simp only [List.headD_cons]; first | (rw [q]; simp; done) | exact q)
theorem lMin_le {ns : List Int} {y : Int} (h : y ∈ ns) : lMin ns ≤ y := (foldmin ns _).1 y h
theorem lMin_mem {ns : List Int} (h : ns ≠ []) : lMin ns ∈ ns := by
  cases ns with
  | nil => exact absurd rfl h
  | cons n ns => rcases (foldmin (n :: ns) n).2.2 with q | q <;> (unfold lMin; simp only [List.headD_cons]; first | (rw [q]; simp; done) | exact q)
def dMaxL : List D → Option D
  | [.list ts] => if isInts ts && !ts.isEmpty then some (.int (lMax (toInts ts))) else none
  | _ => none
def dMinL : List D → Option D
  | [.list ts] => if isInts ts && !ts.isEmpty then some (.int (lMin (toInts ts))) else none
  | _ => none
theorem ne_of_emp {ts : List D} (h : (!ts.isEmpty) = true) : toInts ts ≠ [] := by
  cases ts <;> simp [toInts] at h ⊢
theorem c_maxL : OpC C (.builtin "max") dMaxL := fun X g => CallR.imp (cr_max g.calm) fun xs H Q ⟨ft, F, ts, r, hl, rr, e, q⟩ => by
  unfold dMaxL at e
  split at e
  · split at e
    · rename_i us hb
      rw [Bool.and_eq_true] at hb
      cases e
      obtain ⟨x, rfl, p, ys, rfl, h1, h2⟩ := RRs.one rr
      rw [ints_of hb.1] at h2
      obtain rfl := RepL.ints h2
      have ne := ne_of_emp hb.2
      refine ⟨p, _, rfl, h1.sq, List.length_pos_iff.mpr ne, fun m hm hy => ?_⟩
      have : m = lMax (toInts us) := Int.le_antisymm (lMax_ge hm) (hy _ (lMax_mem ne))
      rw [this]
      exact q _ H F (Grow.rfl' hl) rep_int
    · cases e
  · cases e
theorem c_minL : OpC C (.builtin "min") dMinL := fun X g => CallR.imp (cr_min g.calm) fun xs H Q ⟨ft, F, ts, r, hl, rr, e, q⟩ => by
  unfold dMinL at e
  split at e
  · split at e
    · rename_i us hb
      rw [Bool.and_eq_true] at hb
      cases e
      obtain ⟨x, rfl, p, ys, rfl, h1, h2⟩ := RRs.one rr
      rw [ints_of hb.1] at h2
      obtain rfl := RepL.ints h2
      have ne := ne_of_emp hb.2
      refine ⟨p, _, rfl, h1.sq, List.length_pos_iff.mpr ne, fun m hm hy => ?_⟩
      have : m = lMin (toInts us) := Int.le_antisymm (hy _ (lMin_mem ne)) (lMin_le hm)
      rw [this]
      exact q _ H F (Grow.rfl' hl) rep_int
    · cases e
  · cases e

def insI (a : Int) : List Int → List Int
  | [] => [a]
  | b :: r => if a ≤ b then a :: b :: r else b :: insI a r
def sortI : List Int → List Int
  | [] => []
  | a :: r => insI a (sortI r)
theorem insI_perm (a : Int) : ∀ l : List Int, (insI a l).Perm (a :: l)
  | [] => .refl _
  | b :: r => by
    unfold insI
    split
    · exact .refl _
    · exact ((insI_perm a r).cons b).trans (.swap a b r)
theorem sortI_perm : ∀ l : List Int, (sortI l).Perm l
  | [] => .refl _
  | a :: r => (insI_perm a (sortI r)).trans ((sortI_perm r).cons a)
theorem insI_sorted (a : Int) : ∀ {l : List Int}, l.Pairwise (· ≤ ·) → (insI a l).Pairwise (· ≤ ·)
  | [], _ => by simp [insI]
  | b :: r, h => by
    unfold insI
    rw [List.pairwise_cons] at h
    split
    · rename_i hab
      refine List.pairwise_cons.mpr ⟨fun y hy => ?_, List.pairwise_cons.mpr h⟩
      simp at hy
      rcases hy with rfl | hy
      · exact hab
      · exact Int.le_trans hab (h.1 y hy)
    · rename_i hab
      refine List.pairwise_cons.mpr ⟨fun y hy => ?_, insI_sorted a h.2⟩
      have := (insI_perm a r).mem_iff.mp hy
      simp at this
      rcases this with rfl | hy
      · omega
      · exact h.1 y hy
theorem sortI_sorted : ∀ l : List Int, (sortI l).Pairwise (· ≤ ·)
  | [] => .nil
  | a :: r => insI_sorted a (sortI_sorted r)
theorem sorted_one : ∀ {l m : List Int}, l.Perm m → l.Pairwise (· ≤ ·) → m.Pairwise (· ≤ ·) → l = m
  | [], m, p, _, _ => (List.perm_nil.mp p.symm).symm
  | a :: l, [], p, _, _ => by cases List.perm_nil.mp p
  | a :: l, b :: m, p, h1, h2 => by
    rw [List.pairwise_cons] at h1 h2
    have ha : a ∈ b :: m := p.mem_iff.mp (by simp)
    have hb : b ∈ a :: l := p.mem_iff.mpr (by simp)
    have e : a = b := by
      simp at ha hb
      rcases ha with e | ha
      · exact e
      · rcases hb with e | hb
        · exact e.symm
        · exact Int.le_antisymm (h1.1 b hb) (h2.1 a ha)
    subst e
    rw [sorted_one (p.cons_inv) h1.2 h2.2]
def dSortI : List D → Option D
  | [.list ts] => if isInts ts then some (.list ((sortI (toInts ts)).map PyData.int)) else none
  | _ => none
theorem c_sortI : OpCF C (.builtin "sorted") dSortI := fun X g => CallR.imp cr_sortedI fun xs H Q ⟨ft, F, ts, r, hl, rr, e, q⟩ => by
  unfold dSortI at e
  split at e
  · split at e
    · rename_i us hb
      cases e
      obtain ⟨x, rfl, p, ys, rfl, h1, h2⟩ := RRs.one rr
      rw [ints_of hb] at h2
      obtain rfl := RepL.ints h2
      refine ⟨p, _, rfl, h1.sq, fun ns' p' hp hs hn => ?_⟩
      have : ns' = sortI (toInts us) := sorted_one (hp.trans (sortI_perm _).symm) hs (sortI_sorted _)
      subst this
      obtain ⟨gr, np, ow⟩ := own_new hl hn (RepL.of_ints _)
      exact q p' _ F gr hn np ow
    · cases e
  · cases e
end Z
namespace Z
open PySem PySem.Spec PyProof.Rows L2
variable {C : Ct} {N : List Str} {sc : Scope} {x y w : Expr} {z zx zy zw zc ze : ZE} {pos : Pos} {es : List Expr} {M : Md} {tg tr : Tg} {s : Stmt} {ss : List Stmt} {q q1 q2 : ZS}
theorem _root_.L2.PI.or {X : Cx} {tg e : Expr} {t t' : TI} (h : PI X tg e t) (h' : PI X tg e t') : PI X tg e (fun σ H R => t σ H R ∨ t' σ H R) :=
  ⟨fun pins s σ H R I q => q.elim (h.run pins s σ H R I) (h'.run pins s σ H R I)⟩
/-- what a for walks: a list or a tuple -/
def dSeq : D → Option D
  | .list ts => some (.list ts)
  | .tuple ts => some (.list ts)
  | _ => none
theorem qi_seq {tgx : Expr} (ok : MdOk M) (h : QP C N sc M x z) : QI C N sc M tgx x (.op1 dSeq z) := fun X G g n s => (PI.or (qi_list (tgx := tgx) h X G g n s) (qi_tup (tgx := tgx) ok h X G g n s)).wk fun σ H R ⟨ft, F, env, st, ts, st', I, ev, q⟩ => by
  obtain ⟨a, e1, e2⟩ := un_ev ev
  cases a <;> simp [dSeq] at e2
  · subst e2
    left
    refine ⟨ft, F, env, st, _, st', I, ?_, q⟩
    unfold evE
    rw [e1]
    rfl
  · subst e2
    right
    refine ⟨ft, F, env, st, _, st', I, ?_, q⟩
    unfold evE
    rw [e1]
    rfl
/-- a slice of a list or a tuple, as a value -/
def dSlice (t a b : D) : Option D := match t with
  | .list ts => (dPart a).bind fun lo => (dPart b).map fun hi => .list (cutD ts lo hi)
  | .tuple ts => (dPart a).bind fun lo => (dPart b).map fun hi => .tuple (cutD ts lo hi)
  | _ => none
theorem _root_.L2.PE.or {X : Cx} {e : Expr} {t t' : TE} (h : PE X e t) (h' : PE X e t') : PE X e (fun σ H R => t σ H R ∨ t' σ H R) :=
  ⟨fun pins s σ H R I q => q.elim (h.run pins s σ H R I) (h'.run pins s σ H R I)⟩
theorem qe_slice {lo hi : Option Expr} {p2 : Pos} (hx : QR C N sc x zx) (hl : QO C N sc lo zy) (hh : QO C N sc hi zw) : QE C N sc (.Subscript x (.Slice lo hi none p2) pos) (.op3 dSlice zx zy zw) := fun X G g n s =>
  (PE.or ((qf_slice (p2 := p2) (pos := pos) hx hl hh).e X G g n s) (qe_sliceT (p2 := p2) (pos := pos) hx hl hh X G g n s)).wk fun σ H Q ⟨ft, F, env, st, r, st', I, ev, q⟩ => by
    obtain ⟨a, st1, b, st2, c, e1, e2, e3, e4⟩ := op3_ev ev
    have back : ∀ {f : D → D → D → Option D}, f a b c = some r → evE (.op3 f zx zy zw) env st = some (r, st') := fun {f} h => by
      unfold evE
      rw [e1, Option.bind_some, e2, Option.bind_some, e3, Option.bind_some]
      show (f a b c).map _ = _
      rw [h]
      rfl
    cases a <;> simp only [dSlice] at e4 <;> try (cases e4; done)
    · exact .inl ⟨ft, F, env, st, r, st', I, back (f := dSliceL) (by simpa only [dSliceL] using e4), q⟩
    · exact .inr ⟨ft, F, env, st, r, st', I, back (f := dSliceT) (by simpa only [dSliceT] using e4), q⟩
end Z
namespace Z
open PySem PySem.Spec PyProof.Rows L2

/-! ### more fuel does no harm -/
theorem itW_mono {t : Env → SD → Option (Bool × SD)} {b b' : Env → SD → Option Out} (hb : ∀ e s o, b e s = some o → b' e s = some o) : ∀ {n m : Nat} {env st o}, n ≤ m → itW t b n env st = some o → itW t b' m env st = some o
  | 0, _, _, _, _, _, h => by cases h
  | n + 1, 0, _, _, _, l, _ => by omega
  | n + 1, m + 1, env, st, o, l, h => by
    unfold itW at h ⊢
    cases ht : t env st with
    | none => rw [ht] at h; cases h
    | some c =>
      rw [ht] at h
      simp only [Option.bind_some] at h ⊢
      split
      · rename_i hc
        rw [if_pos hc] at h
        cases hbb : b env c.2 with
        | none => rw [hbb] at h; cases h
        | some q =>
          rw [hbb] at h
          rw [hb _ _ _ hbb]
          simp only [Option.bind_some] at h ⊢
          cases q with
          | nx e s => exact itW_mono hb (by omega) h
          | ct e s => exact itW_mono hb (by omega) h
          | bk e s => exact h
          | ret d s => exact h
      · rename_i hc
        rw [if_neg hc] at h
        exact h
theorem itF_mono {tg : Tg} {b b' : Env → SD → Option Out} (hb : ∀ e s o, b e s = some o → b' e s = some o) : ∀ {ts : List D} {env st o}, itF tg b ts env st = some o → itF tg b' ts env st = some o
  | [], _, _, _, h => h
  | t :: ts, env, st, o, h => by
    unfold itF at h ⊢
    cases ht : setT tg t env with
    | none => rw [ht] at h; cases h
    | some e =>
      rw [ht] at h
      simp only [Option.bind_some] at h ⊢
      cases hbb : b e st with
      | none => rw [hbb] at h; cases h
      | some q =>
        rw [hbb] at h
        rw [hb _ _ _ hbb]
        simp only [Option.bind_some] at h ⊢
        cases q with
        | nx e s => exact itF_mono hb h
        | ct e s => exact itF_mono hb h
        | bk e s => exact h
        | ret d s => exact h
theorem evS_mono {n m : Nat} (l : n ≤ m) : ∀ {z : ZS} {env st o}, evS n z env st = some o → evS m z env st = some o
  | .brk, _, _, _, h => h
  | .cont, _, _, _, h => h
  | .skip, _, _, _, h => h
  | .seq a b, env, st, o, h => by
    unfold evS at h ⊢
    cases ha : evS n a env st with
    | none => rw [ha] at h; cases h
    | some q =>
      rw [ha] at h
      rw [evS_mono l ha]
      simp only [Option.bind_some] at h ⊢
      cases q with
      | nx e s => exact evS_mono l h
      | ct e s => exact h
      | bk e s => exact h
      | ret d s => exact h
  | .asg _ _, _, _, _, h => h
  | .asgO _ _, _, _, _, h => h
  | .asgM _ _ _, _, _, _, h => h
  | .asgL _ _, _, _, _, h => h
  | .par _ _, _, _, _, h => h
  | .aug _ _ _, _, _, _, h => h
  | .seti _ _ _ _, _, _, _, h => h
  | .augi _ _ _ _ _ _, _, _, _, h => h
  | .mut _ _ _, _, _, _, h => h
  | .pop _ _ _, _, _, _, h => h
  | .drop _, _, _, _, h => h
  | .sset _ _ _, _, _, _, h => h
  | .frz _, _, _, _, h => h
  | .ret _, _, _, _, h => h
  | .ife c a b, env, st, o, h => by
    unfold evS at h ⊢
    cases hc : evE c env st with
    | none => rw [hc] at h; cases h
    | some q =>
      rw [hc] at h
      simp only [Option.bind_some] at h ⊢
      cases hq : evBool q with
      | none => rw [hq] at h; cases h
      | some r =>
        rw [hq] at h
        simp only [Option.bind_some] at h ⊢
        split
        · rename_i hr
          rw [if_pos hr] at h
          exact evS_mono l h
        · rename_i hr
          rw [if_neg hr] at h
          exact evS_mono l h
  | .whl c b, env, st, o, h => by
    unfold evS at h ⊢
    exact itW_mono (fun e s o h => evS_mono l h) l h
  | .forr tg it b, env, st, o, h => by
    unfold evS at h ⊢
    cases hc : evE it env st with
    | none => rw [hc] at h; cases h
    | some q =>
      rw [hc] at h
      simp only [Option.bind_some] at h ⊢
      cases hq : evList q with
      | none => rw [hq] at h; cases h
      | some r =>
        rw [hq] at h
        simp only [Option.bind_some] at h ⊢
        exact itF_mono (fun e s o h => evS_mono l h) h

/-! ### weakest premises -/
def Sm {α : Type} (o : Option α) (Q : α → Prop) : Prop := ∃ x, o = some x ∧ Q x
theorem sm_some {α : Type} {x : α} {Q : α → Prop} : Sm (some x) Q ↔ Q x := ⟨fun ⟨_, e, h⟩ => by cases e; exact h, fun h => ⟨x, rfl, h⟩⟩
theorem sm_none {α : Type} {Q : α → Prop} : Sm none Q ↔ False := ⟨fun ⟨_, e, _⟩ => (by cases e), fun h => h.elim⟩
theorem sm_if {α : Type} {x : α} {c : Prop} [Decidable c] {Q : α → Prop} : Sm (if c then some x else none) Q ↔ c ∧ Q x := by
  split
  · rename_i h; rw [sm_some]; exact ⟨fun q => ⟨h, q⟩, fun q => q.2⟩
  · rename_i h; rw [sm_none]; exact ⟨fun q => q.elim, fun q => h q.1⟩
theorem sm_map {α β : Type} {o : Option α} {f : α → β} {Q : β → Prop} : Sm (o.map f) Q ↔ Sm o fun x => Q (f x) := by
  cases o with
  | none => simp [sm_none]
  | some a => simp [sm_some]
theorem sm_bind {α β : Type} {o : Option α} {f : α → Option β} {Q : β → Prop} : Sm (o.bind f) Q ↔ Sm o fun x => Sm (f x) Q := by
  cases o with
  | none => simp [sm_none]
  | some a => simp [sm_some]
theorem Sm.mono {α : Type} {o : Option α} {Q R : α → Prop} (h : Sm o Q) (q : ∀ x, Q x → R x) : Sm o R := by
  obtain ⟨x, e, h⟩ := h
  exact ⟨x, e, q x h⟩
theorem Sm.of {α : Type} {o : Option α} {x : α} {Q : α → Prop} (e : o = some x) (h : Q x) : Sm o Q := ⟨x, e, h⟩

/-- an expression's weakest premise -/
def E (z : ZE) (env : Env) (st : SD) (Q : D → SD → Prop) : Prop := Sm (evE z env st) fun x => Q x.1 x.2
/-- .. a statement's -/
def W (z : ZS) (env : Env) (st : SD) (Q : Out → Prop) : Prop := ∃ n, Sm (evS n z env st) Q
/-- both ways of a truth value -/
def Br (d : D) (P R : Prop) : Prop := match d with | .bool true => P | .bool false => R | _ => False
theorem br_t {P R : Prop} : Br (.bool true) P R ↔ P := Iff.rfl
theorem br_f {P R : Prop} : Br (.bool false) P R ↔ R := Iff.rfl
theorem br_d {c : Prop} [Decidable c] {P R : Prop} : Br (.bool (decide c)) P R ↔ (c → P) ∧ (¬ c → R) := by
  by_cases h : c
  · simp [h, Br]
  · simp [h, Br]
theorem br_n {c : Prop} [Decidable c] {P R : Prop} : Br (.bool (!decide c)) P R ↔ (¬ c → P) ∧ (c → R) := by
  by_cases h : c
  · simp [h, Br]
  · simp [h, Br]
theorem br_b {c : Bool} {P R : Prop} : Br (.bool c) P R ↔ (c = true → P) ∧ (c = false → R) := by
  cases c <;> simp [Br]
theorem sm_evBool {x : D × SD} {f : Bool × SD → Prop} : Sm (evBool x) f ↔ Br x.1 (f (true, x.2)) (f (false, x.2)) := by
  obtain ⟨d, s⟩ := x
  cases d with
  | bool b => cases b <;> exact sm_some
  | _ => exact sm_none
/-- a list's members -/
def Ls (d : D) (Q : List D → Prop) : Prop := match d with | .list l => Q l | _ => False
theorem ls_l {l : List D} {Q : List D → Prop} : Ls (.list l) Q ↔ Q l := Iff.rfl
theorem sm_evList {x : D × SD} {f : List D × SD → Prop} : Sm (evList x) f ↔ Ls x.1 fun l => f (l, x.2) := by
  obtain ⟨d, s⟩ := x
  cases d <;> first | exact sm_some | exact sm_none
/-- slots read -/
def gV (s : Option Sl) : Option D := match s with | some (.sh t) => some t | _ => none
def gR (s : Option Sl) : Option D := match s with | some (.sh t) => some t | some (.br t) => some t | some (.ow t) => some t | _ => none
def gS (s : Option Sl) : Option D := match s with | some (.sh t) => some t | some (.br t) => some t | _ => none
def gO (s : Option Sl) : Option D := match s with | some (.ow t) => some t | _ => none
def gF (s : Option Sl) : Option D := match s with | some (.ow t) => some t | some (.sh t) => some t | _ => none
theorem gV_sh {t : D} : gV (some (.sh t)) = some t := rfl
theorem gR_sh {t : D} : gR (some (.sh t)) = some t := rfl
theorem gR_br {t : D} : gR (some (.br t)) = some t := rfl
theorem gR_ow {t : D} : gR (some (.ow t)) = some t := rfl
theorem gS_sh {t : D} : gS (some (.sh t)) = some t := rfl
theorem gS_br {t : D} : gS (some (.br t)) = some t := rfl
theorem gO_ow {t : D} : gO (some (.ow t)) = some t := rfl
theorem gF_ow {t : D} : gF (some (.ow t)) = some t := rfl
theorem gF_sh {t : D} : gF (some (.sh t)) = some t := rfl

section
variable {z a b c e : ZE} {env : Env} {st : SD} {Q : D → SD → Prop} {i j : Nat} {d : D} {own : List Nat} {tg : Tg} {it : ZE}
theorem e_var : E (.var i) env st Q ↔ Sm (gV env[i]?) fun t => Q t st := by
  unfold E evE gV
  split <;> simp [sm_some, sm_none, *]
theorem e_rd : E (.rd i) env st Q ↔ Sm (gR env[i]?) fun t => Q t st := by
  unfold E evE gR
  split <;> simp [sm_some, sm_none, *]
theorem e_sr : E (.sr i) env st Q ↔ Sm (gS env[i]?) fun t => Q t st := by
  unfold E evE gS
  split <;> simp [sm_some, sm_none, *]
theorem e_cst : E (.cst d) env st Q ↔ Q d st := sm_some
theorem e_op1 {f : D → Option D} : E (.op1 f a) env st Q ↔ E a env st fun x s => Sm (f x) fun r => Q r s := by
  unfold E; rw [evE, sm_bind]; simp only [sm_map]
theorem e_op2 {f : D → D → Option D} : E (.op2 f a b) env st Q ↔ E a env st fun x s => E b env s fun y s => Sm (f x y) fun r => Q r s := by
  unfold E; rw [evE, sm_bind]; simp only [sm_bind, sm_map]
theorem e_op3 {f : D → D → D → Option D} : E (.op3 f a b c) env st Q ↔ E a env st fun x s => E b env s fun y s => E c env s fun w s => Sm (f x y w) fun r => Q r s := by
  unfold E; rw [evE, sm_bind]; simp only [sm_bind, sm_map]
theorem e_chain {f g : D → D → Option D} : E (.chain f g a b c) env st Q ↔ E a env st fun x s => E b env s fun y s => Sm (f x y) fun r => Br r (E c env s fun w s => Sm (g y w) fun r => Q r s) (Q (.bool false) s) := by
  unfold E; rw [evE, sm_bind]; simp only [sm_bind, sm_map]
  apply iff_of_eq; congr 1; funext x; congr 1; funext y; congr 1; funext r
  cases r with
  | bool k => cases k <;> simp [Br, sm_some, sm_bind, sm_map]
  | _ => simp [Br, sm_none]
theorem e_band : E (.band a b) env st Q ↔ E a env st fun x s => Br x (E b env s Q) (Q (.bool false) s) := by
  unfold E; rw [evE, sm_bind]; simp only [sm_bind, sm_map, sm_evBool, sm_some, if_true, Bool.false_eq_true, if_false]
theorem e_bor : E (.bor a b) env st Q ↔ E a env st fun x s => Br x (Q (.bool true) s) (E b env s Q) := by
  unfold E; rw [evE, sm_bind]; simp only [sm_bind, sm_map, sm_evBool, sm_some, if_true, Bool.false_eq_true, if_false]
theorem e_ife : E (.ife c a b) env st Q ↔ E c env st fun x s => Br x (E a env s Q) (E b env s Q) := by
  unfold E; rw [evE, sm_bind]; simp only [sm_bind, sm_map, sm_evBool, sm_some, if_true, Bool.false_eq_true, if_false]
theorem e_anil : E .anil env st Q ↔ Q (.list []) st := sm_some
theorem e_acons : E (.acons a b) env st Q ↔ E a env st fun x s => E b env s fun y s => Ls y fun l => Q (.list (x :: l)) s := by
  unfold E; rw [evE, sm_bind]; simp only [sm_bind, sm_map, sm_evList]
theorem e_lst : E (.lst a) env st Q ↔ E a env st fun x s => Ls x fun l => l.length ≤ 16777216 ∧ Q (.list l) s := by
  unfold E; rw [evE, sm_bind]; simp only [sm_bind, sm_map, sm_evList, sm_if]
theorem e_tup : E (.tup a) env st Q ↔ E a env st fun x s => Ls x fun l => l.length ≤ 16777216 ∧ Q (.tuple l) s := by
  unfold E; rw [evE, sm_bind]; simp only [sm_bind, sm_map, sm_evList, sm_if]
theorem e_bi {f : List D → Option D} : E (.bi f a) env st Q ↔ E a env st fun x s => Ls x fun l => Sm (f l) fun r => Q r s := by
  unfold E; rw [evE, sm_bind]; simp only [sm_bind, sm_map, sm_evList]
theorem e_call {f : List D → Option D} : E (.call f a) env st Q ↔ E a env st fun x s => Ls x fun l => Sm (f l) fun r => Q r s := by
  unfold E; rw [evE, sm_bind]; simp only [sm_bind, sm_map, sm_evList]
theorem e_calls {f : D → List D → Option (D × D)} : E (.calls i f a) env st Q ↔ env[i]? = some .st ∧ E a env st fun x s => Ls x fun l => Sm s fun t => Sm (f t l) fun r => Q r.1 (some r.2) := by
  unfold E; rw [evE]
  split
  · rename_i h
    rw [sm_bind]; simp only [sm_bind, sm_map, sm_evList, h, true_and]
  · rename_i h
    rw [sm_none]
    exact ⟨fun q => q.elim, fun q => absurd q.1 h⟩
theorem e_sget : E (.sget i j) env st Q ↔ env[i]? = some .st ∧ Sm st fun t => Sm (dItem t j) fun r => Q r st := by
  unfold E; rw [evE]
  split
  · rename_i h
    simp only [sm_bind, sm_map, h, true_and]
  · rename_i h
    rw [sm_none]
    exact ⟨fun q => q.elim, fun q => absurd q.1 h⟩
theorem e_comp : E (.comp own tg it c e) env st Q ↔ E it env st fun x s => Ls x fun l => Sm (evC (wipeE env own) tg (evE c) (evE e) l s) fun r => r.1.length ≤ 16777216 ∧ Q (.list r.1) r.2 := by
  unfold E; rw [evE, sm_bind]; simp only [sm_bind, sm_map, sm_evList, sm_if]
theorem E.mono {R : D → SD → Prop} (h : E z env st Q) (q : ∀ x s, Q x s → R x s) : E z env st R := Sm.mono h fun x => q x.1 x.2
end
section
variable {z a b : ZS} {c e : ZE} {env : Env} {st : SD} {Q : Out → Prop} {i j : Nat} {d : D} {tg : Tg} {it : ZE}
/-- what is left to do -/
def Kq (b : ZS) (Q : Out → Prop) : Out → Prop
  | .nx e s => W b e s Q
  | .bk e s => Q (.bk e s)
  | .ct e s => Q (.ct e s)
  | .ret d s => Q (.ret d s)
theorem kq_nx {s : SD} : Kq b Q (.nx env s) ↔ W b env s Q := Iff.rfl
theorem kq_ret {s : SD} : Kq b Q (.ret d s) ↔ Q (.ret d s) := Iff.rfl
theorem kq_bk {s : SD} : Kq b Q (.bk env s) ↔ Q (.bk env s) := Iff.rfl
theorem kq_ct {s : SD} : Kq b Q (.ct env s) ↔ Q (.ct env s) := Iff.rfl
theorem W.mono {R : Out → Prop} (h : W z env st Q) (q : ∀ o, Q o → R o) : W z env st R := by
  obtain ⟨n, h⟩ := h
  exact ⟨n, h.mono q⟩
theorem W.seq (h : W a env st (Kq b Q)) : W (.seq a b) env st Q := by
  obtain ⟨n, o, h1, h2⟩ := h
  cases o with
  | nx e s =>
    obtain ⟨m, o, h3, h4⟩ := h2
    refine ⟨max n m, o, ?_, h4⟩
    rw [evS, evS_mono (Nat.le_max_left n m) h1]
    exact evS_mono (Nat.le_max_right n m) h3
  | bk e s => exact ⟨n, _, by rw [evS, h1]; rfl, h2⟩
  | ct e s => exact ⟨n, _, by rw [evS, h1]; rfl, h2⟩
  | ret e s => exact ⟨n, _, by rw [evS, h1]; rfl, h2⟩
theorem w_seq : W (.seq a b) env st Q ↔ W a env st (Kq b Q) := ⟨fun ⟨n, o, h, q⟩ => by
  obtain ⟨o1, h1, h2⟩ := seq_ev h
  refine ⟨n, o1, h1, ?_⟩
  cases o1 with
  | nx e s => exact ⟨n, o, h2, q⟩
  | _ => subst h2; exact q, W.seq⟩
theorem w_skip : W .skip env st Q ↔ Q (.nx env st) := ⟨fun ⟨_, h⟩ => sm_some.mp h, fun h => ⟨0, sm_some.mpr h⟩⟩
theorem w_brk : W .brk env st Q ↔ Q (.bk env st) := ⟨fun ⟨_, h⟩ => sm_some.mp h, fun h => ⟨0, sm_some.mpr h⟩⟩
theorem w_cont : W .cont env st Q ↔ Q (.ct env st) := ⟨fun ⟨_, h⟩ => sm_some.mp h, fun h => ⟨0, sm_some.mpr h⟩⟩
theorem w_asg1 : W (.asg (.one i) e) env st Q ↔ E e env st fun d s => Q (.nx (env.set i (.sh d)) s) := by
  unfold W E; simp only [evS, sm_bind, sm_map, setT, sm_some]
  exact ⟨fun ⟨_, h⟩ => h, fun h => ⟨0, h⟩⟩
theorem w_asg : W (.asg tg e) env st Q ↔ E e env st fun d s => Sm (setT tg d env) fun env' => Q (.nx env' s) := by
  unfold W E; simp only [evS, sm_bind, sm_map]
  exact ⟨fun ⟨_, h⟩ => h, fun h => ⟨0, h⟩⟩
theorem w_asgO : W (.asgO i e) env st Q ↔ E e env st fun d s => Q (.nx (env.set i (.ow d)) s) := by
  unfold W E; simp only [evS, sm_bind, sm_map]
  exact ⟨fun ⟨_, h⟩ => h, fun h => ⟨0, h⟩⟩
theorem w_asgL {p q : Int} (h : E e env st fun d s => d = .list [.int p, .int q] ∧ s = none ∧ Q (.nx (env.set i .st) (some d))) : W (.asgL i e) env st Q := by
  obtain ⟨⟨d, s⟩, e1, h1, h2, h3⟩ := h
  simp only at h1 h2 h3
  subst h1 h2
  exact ⟨0, _, by rw [evS, e1]; rfl, h3⟩
theorem w_asgM {f : List D → Option D} (h : E e env st fun d s => s = none ∧ Ls d fun l => Sm (f l) fun t => Q (.nx (env.set i .st) (some t))) : W (.asgM i f e) env st Q := by
  obtain ⟨⟨d, s⟩, e1, h2, h3⟩ := h
  simp only at h2 h3
  subst h2
  cases d with
  | list l =>
    obtain ⟨t, e2, h4⟩ := h3
    exact ⟨0, _, by rw [evS, e1]; simp only [Option.bind_some, evList, e2, Option.map_some], h4⟩
  | _ => exact h3.elim
theorem w_par {is : List (Nat × Bool)} : W (.par is e) env st Q ↔ E e env st fun d s => Ls d fun l => Sm (setMix env is l) fun env' => Q (.nx env' s) := by
  unfold W E; simp only [evS, sm_bind, sm_map, sm_evList]
  exact ⟨fun ⟨_, h⟩ => h, fun h => ⟨0, h⟩⟩
theorem w_ret : W (.ret e) env st Q ↔ E e env st fun d s => Q (.ret d s) := by
  unfold W E; simp only [evS, sm_bind, sm_map]
  exact ⟨fun ⟨_, h⟩ => h, fun h => ⟨0, h⟩⟩
theorem w_drop : W (.drop e) env st Q ↔ E e env st fun d s => Q (.nx env s) := by
  unfold W E; simp only [evS, sm_bind, sm_map]
  exact ⟨fun ⟨_, h⟩ => h, fun h => ⟨0, h⟩⟩
theorem w_aug {f : D → D → Option D} : W (.aug i f e) env st Q ↔ Sm (gV env[i]?) fun t => E e env st fun d s => Sm (f t d) fun r => Q (.nx (env.set i (.sh r)) s) := by
  unfold W E gV; simp only [evS]
  cases hh : env[i]? with
  | none => simp only [sm_none, exists_const]
  | some s => cases s <;> simp only [sm_none, sm_some, sm_bind, sm_map, exists_const]
theorem w_mut {f : D → D → Option D} : W (.mut i f e) env st Q ↔ E e env st fun d s => Sm (gO env[i]?) fun t => Sm (f t d) fun r => Q (.nx (env.set i (.ow r)) s) := by
  unfold W E gO; simp only [evS, sm_bind]
  cases hh : env[i]? with
  | none => simp only [sm_none, exists_const]
  | some s => cases s <;> simp only [sm_none, sm_some, sm_bind, sm_map, exists_const]
theorem w_seti {f : D → D → D → Option D} {k : ZE} : W (.seti i f e k) env st Q ↔ E e env st fun d s => E k env s fun x s => Sm (gO env[i]?) fun t => Sm (f t x d) fun r => Q (.nx (env.set i (.ow r)) s) := by
  unfold W E gO; simp only [evS, sm_bind]
  cases hh : env[i]? with
  | none => simp only [sm_none, exists_const]
  | some s => cases s <;> simp only [sm_none, sm_some, sm_bind, sm_map, exists_const]
theorem w_augi {g h : D → D → Option D} {f : D → D → D → Option D} {k : ZE} : W (.augi i g h f k e) env st Q ↔ E k env st fun x s => Sm (gO env[i]?) fun t => Sm (g t x) fun old => E e env s fun y s => Sm (h old y) fun nw => Sm (f t x nw) fun r => Q (.nx (env.set i (.ow r)) s) := by
  unfold W E gO; simp only [evS, sm_bind]
  cases hh : env[i]? with
  | none => simp only [sm_none, exists_const]
  | some s => cases s <;> simp only [sm_none, sm_some, sm_bind, sm_map, exists_const]
theorem w_pop {f : D → Option (D × D)} : W (.pop tg i f) env st Q ↔ Sm (gO env[i]?) fun t => Sm (f t) fun r => Sm (setT tg r.1 (env.set i (.ow r.2))) fun env' => Q (.nx env' st) := by
  unfold W gO; simp only [evS]
  cases hh : env[i]? with
  | none => simp only [sm_none, exists_const]
  | some s => cases s <;> simp only [sm_none, sm_some, sm_bind, sm_map, exists_const]
theorem w_frz : W (.frz i) env st Q ↔ Sm (gF env[i]?) fun t => Q (.nx (env.set i (.sh t)) st) := by
  unfold W gF; simp only [evS]
  cases h : env[i]? with
  | none => simp [sm_none]
  | some s =>
    cases s with
    | ow t => simp [sm_some]
    | sh t =>
      have : env.set i (.sh t) = env := by
        apply List.ext_getElem?
        intro j
        by_cases hj : i = j
        · subst hj
          rw [List.getElem?_set_self (List.getElem?_eq_some_iff.mp h).1, h]
        · rw [List.getElem?_set_ne hj]
      simp [sm_some, this]
    | _ => simp [sm_none]
theorem w_sset : W (.sset i j e) env st Q ↔ E e env st fun d s => env[i]? = some .st ∧ Sm s fun t => Sm (dItemSet t j d) fun r => Q (.nx env (some r)) := by
  unfold W E; simp only [evS, sm_bind]
  constructor
  · rintro ⟨_, h⟩
    refine h.mono fun x q => ?_
    split at q
    · simp only [sm_map, sm_some, sm_bind] at q ⊢; exact ⟨by assumption, q⟩
    · exact (sm_none.mp q).elim
  · intro h
    refine ⟨0, h.mono fun x q => ?_⟩
    obtain ⟨q1, q2⟩ := q
    rw [q1]
    simp only [sm_map, sm_some, sm_bind]; exact q2
theorem w_ife : W (.ife c a b) env st Q ↔ E c env st fun x s => Br x (W a env s Q) (W b env s Q) := by
  constructor
  · rintro ⟨n, h⟩
    simp only [evS, sm_bind, sm_evBool] at h
    refine h.mono fun x q => ?_
    revert q
    generalize x.1 = d
    intro q
    cases d with
    | bool k => cases k <;> exact ⟨n, by simpa [Br] using q⟩
    | _ => exact q
  · rintro ⟨⟨d, s⟩, e1, h⟩
    cases d with
    | bool k =>
      cases k with
      | true =>
        obtain ⟨n, h⟩ := h
        exact ⟨n, by rw [evS, e1]; simpa [evBool] using h⟩
      | false =>
        obtain ⟨n, h⟩ := h
        exact ⟨n, by rw [evS, e1]; simpa [evBool] using h⟩
    | _ => exact h.elim
/-- a turn's ends -/
def Kl (N : Env → SD → Prop) (Q : Out → Prop) : Out → Prop
  | .nx e s => N e s
  | .ct e s => N e s
  | .bk e s => Q (.nx e s)
  | .ret d s => Q (.ret d s)
variable {N : Env → SD → Prop}
theorem kl_nx {s : SD} : Kl N Q (.nx env s) ↔ N env s := Iff.rfl
theorem kl_ct {s : SD} : Kl N Q (.ct env s) ↔ N env s := Iff.rfl
theorem kl_bk {s : SD} : Kl N Q (.bk env s) ↔ Q (.nx env s) := Iff.rfl
theorem kl_ret {s : SD} : Kl N Q (.ret d s) ↔ Q (.ret d s) := Iff.rfl
/-- while: I counts down -/
theorem W.whl (I : Nat → Env → SD → Prop) (m : Nat) (h0 : I m env st)
    (hs : ∀ m env st, I m env st → E c env st fun x s => Br x (W b env s (Kl (fun e s => ∃ k, k < m ∧ I k e s) Q)) (Q (.nx env s))) : W (.whl c b) env st Q := by
  suffices h : ∀ m env st, I m env st → ∃ n, Sm (itW (fun env st => (evE c env st).bind evBool) (evS n b) n env st) Q by
    obtain ⟨n, h⟩ := h m env st h0
    exact ⟨n, by rw [evS]; exact h⟩
  intro m
  induction m using Nat.strongRecOn with
  | ind m ih =>
    intro env st hI
    obtain ⟨⟨d, s⟩, e1, h1⟩ := hs m env st hI
    cases d with
    | bool k =>
      cases k with
      | true =>
        obtain ⟨n, o, e2, h2⟩ := h1
        cases o with
        | nx e' s' =>
          obtain ⟨k, hk, hI'⟩ := h2
          obtain ⟨n', o', e3, h3⟩ := ih k hk _ _ hI'
          refine ⟨max n n' + 1, o', ?_, h3⟩
          rw [itW, e1]
          simp only [Option.bind_some, evBool, if_true]
          rw [evS_mono (Nat.le_trans (Nat.le_max_left n n') (Nat.le_succ _)) e2]
          simp only [Option.bind_some]
          exact itW_mono (fun e s o h => evS_mono (Nat.le_trans (Nat.le_max_right n n') (Nat.le_succ _)) h) (Nat.le_max_right n n') e3
        | ct e' s' =>
          obtain ⟨k, hk, hI'⟩ := h2
          obtain ⟨n', o', e3, h3⟩ := ih k hk _ _ hI'
          refine ⟨max n n' + 1, o', ?_, h3⟩
          rw [itW, e1]
          simp only [Option.bind_some, evBool, if_true]
          rw [evS_mono (Nat.le_trans (Nat.le_max_left n n') (Nat.le_succ _)) e2]
          simp only [Option.bind_some]
          exact itW_mono (fun e s o h => evS_mono (Nat.le_trans (Nat.le_max_right n n') (Nat.le_succ _)) h) (Nat.le_max_right n n') e3
        | bk e' s' =>
          refine ⟨n + 1, _, ?_, h2⟩
          rw [itW, e1]
          simp only [Option.bind_some, evBool, if_true]
          rw [evS_mono (Nat.le_succ _) e2]
          rfl
        | ret e' s' =>
          refine ⟨n + 1, _, ?_, h2⟩
          rw [itW, e1]
          simp only [Option.bind_some, evBool, if_true]
          rw [evS_mono (Nat.le_succ _) e2]
          rfl
      | false =>
        refine ⟨1, _, ?_, h1⟩
        rw [itW, e1]
        rfl
    | _ => exact h1.elim
/-- for: I holds ahead of what is left -/
theorem W.itF (I : List D → Env → SD → Prop) (hn : ∀ env st, I [] env st → Q (.nx env st))
    (hs : ∀ t ts env st, I (t :: ts) env st → Sm (setT tg t env) fun env' => W b env' st (Kl (I ts) Q)) : ∀ (ts : List D) (env : Env) (st : SD), I ts env st → ∃ n, Sm (Z.itF tg (evS n b) ts env st) Q := by
  intro ts
  induction ts with
  | nil => intro env st h; exact ⟨0, _, rfl, hn _ _ h⟩
  | cons t ts ih =>
    intro env st h
    obtain ⟨env', e1, n, o, e2, h2⟩ := hs _ _ _ _ h
    cases o with
    | nx e' s' =>
      obtain ⟨n', o', e3, h3⟩ := ih _ _ h2
      refine ⟨max n n', o', ?_, h3⟩
      rw [Z.itF, e1]
      simp only [Option.bind_some]
      rw [evS_mono (Nat.le_max_left n n') e2]
      exact itF_mono (fun e s o h => evS_mono (Nat.le_max_right n n') h) e3
    | ct e' s' =>
      obtain ⟨n', o', e3, h3⟩ := ih _ _ h2
      refine ⟨max n n', o', ?_, h3⟩
      rw [Z.itF, e1]
      simp only [Option.bind_some]
      rw [evS_mono (Nat.le_max_left n n') e2]
      exact itF_mono (fun e s o h => evS_mono (Nat.le_max_right n n') h) e3
    | bk e' s' => exact ⟨n, _, by rw [Z.itF, e1]; simp only [Option.bind_some]; rw [e2]; rfl, h2⟩
    | ret e' s' => exact ⟨n, _, by rw [Z.itF, e1]; simp only [Option.bind_some]; rw [e2]; rfl, h2⟩
theorem W.forr (I : List D → Env → SD → Prop) (h0 : E it env st fun x s => Ls x fun l => I l env s) (hn : ∀ env st, I [] env st → Q (.nx env st))
    (hs : ∀ t ts env st, I (t :: ts) env st → Sm (setT tg t env) fun env' => W b env' st (Kl (I ts) Q)) : W (.forr tg it b) env st Q := by
  obtain ⟨⟨d, s⟩, e1, h⟩ := h0
  cases d with
  | list l =>
    obtain ⟨n, h⟩ := W.itF I hn hs l env s h
    exact ⟨n, by rw [evS, e1]; exact h⟩
  | _ => exact h.elim
theorem rngD_cons {lo : Int} {n : Nat} : rngD lo (n + 1) = .int lo :: rngD (lo + 1) n := by
  unfold rngD
  rw [List.range_succ_eq_map]
  simp only [List.map_cons, List.map_map]
  congr 1
  · simp
  · apply List.map_congr_left
    intro k _
    simp only [Function.comp]
    congr 1
    omega
theorem rngD_zero {lo : Int} : rngD lo 0 = [] := rfl
/-- for over a range -/
theorem W.rng {tg : Tg} (I : Int → Env → SD → Prop) (lo : Int) (k : Nat) (h0 : E it env st fun x s => x = .list (rngD lo k) ∧ s = st) (hI : I lo env st) (hn : ∀ env st, I (lo + k) env st → Q (.nx env st))
    (hs : ∀ t env st, lo ≤ t → t < lo + k → I t env st → Sm (setT tg (.int t) env) fun env' => W b env' st (Kl (I (t + 1)) Q)) : W (.forr tg it b) env st Q := by
  refine W.forr (fun l env st => ∃ j : Nat, j ≤ k ∧ l = rngD (lo + (k - j : Nat)) j ∧ I (lo + (k - j : Nat)) env st) ?_ ?_ ?_
  · refine h0.mono fun x s ⟨e, h⟩ => ?_
    subst e
    subst h
    refine ⟨k, Nat.le_refl _, ?_, ?_⟩
    · simp
    · simpa using hI
  · rintro env st ⟨j, hj, e, h⟩
    cases j with
    | zero => exact hn _ _ (by simpa using h)
    | succ j => rw [rngD_cons] at e; cases e
  · rintro t ts env st ⟨j, hj, e, h⟩
    cases j with
    | zero => cases e
    | succ j =>
      rw [rngD_cons] at e
      cases e
      refine (hs _ env st (by omega) (by omega) h).mono fun env' q => q.mono fun o q => ?_
      cases o with
      | nx e s => exact ⟨j, by omega, by congr 1; omega, by have : lo + ((k - (j + 1) : Nat) : Int) + 1 = lo + ((k - j : Nat) : Int) := by omega
                                                            rw [← this]; exact q⟩
      | ct e s => exact ⟨j, by omega, by congr 1; omega, by have : lo + ((k - (j + 1) : Nat) : Int) + 1 = lo + ((k - j : Nat) : Int) := by omega
                                                            rw [← this]; exact q⟩
      | bk e s => exact q
      | ret e s => exact q
end

/-- for over a known list -/
theorem W.forL {tg : Tg} {it : ZE} {b : ZS} {env : Env} {st : SD} {Q : Out → Prop} (I : List D → Env → SD → Prop) (ts : List D) (h0 : E it env st fun x s => x = .list ts ∧ s = st) (hI : I ts env st) (hn : ∀ env st, I [] env st → Q (.nx env st))
    (hs : ∀ t ts env st, I (t :: ts) env st → Sm (setT tg t env) fun env' => W b env' st (Kl (I ts) Q)) : W (.forr tg it b) env st Q :=
  W.forr I (h0.mono fun x s ⟨e, h⟩ => by subst e; subst h; exact hI) hn hs

/-! ### comprehensions without state -/
theorem evC_pure {env : Env} {tg : Tg} {c e : Ev} {st : SD} (p : D → Bool) (g : D → D) : ∀ {ts : List D}, (∀ t ∈ ts, ∃ env', setT tg t env = some env' ∧ c env' st = some (.bool (p t), st) ∧ (p t = true → e env' st = some (g t, st))) → evC env tg c e ts st = some ((ts.filter p).map g, st)
  | [], _ => rfl
  | t :: ts, h => by
    obtain ⟨env', e1, e2, e3⟩ := h t (.head _)
    have ih := evC_pure p g (ts := ts) fun u hu => h u (.tail _ hu)
    rw [evC, e1]
    simp only [Option.bind_some]
    rw [e2]
    simp only [Option.bind_some, evBool]
    cases hp : p t with
    | true =>
      simp only [if_true]
      rw [e3 hp]
      simp only [Option.bind_some]
      rw [ih]
      simp [List.filter, hp]
    | false =>
      simp only [Bool.false_eq_true, if_false]
      rw [ih]
      simp [List.filter, hp]
/-- the weakest premise of a comprehension with a fixed meaning -/
theorem e_comp_of {own : List Nat} {tg : Tg} {it c e : ZE} {env : Env} {st : SD} {Q : D → SD → Prop} (p : D → Bool) (g : D → D)
    (h : E it env st fun x s => Ls x fun l => l.length ≤ 16777216 ∧ (∀ t ∈ l, Sm (setT tg t (wipeE env own)) fun env' => E c env' s fun b s' => b = .bool (p t) ∧ s' = s ∧ (p t = true → E e env' s fun y s' => y = g t ∧ s' = s)) ∧ Q (.list ((l.filter p).map g)) s) : E (.comp own tg it c e) env st Q := by
  rw [e_comp]
  refine h.mono fun x s q => ?_
  cases x with
  | list l =>
    obtain ⟨h1, h2, h3⟩ := q
    refine Sm.of (evC_pure p g fun t ht => ?_) ?_
    · obtain ⟨env', e1, ⟨⟨d, s'⟩, e2, e3, e4, e5⟩⟩ := h2 t ht
      simp only at e3 e4
      subst e3 e4
      refine ⟨env', e1, e2, fun hp => ?_⟩
      obtain ⟨⟨d, s''⟩, e6, e7, e8⟩ := e5 hp
      simp only at e7 e8
      subst e7 e8
      exact e6
    · exact ⟨by rw [List.length_map]; exact Nat.le_trans (List.length_filter_le _ _) h1, h3⟩
  | _ => exact q.elim
end Z
namespace Z
open PySem PySem.Spec PyProof.Rows L2

def dAddI : D → D → Option D := fun a b => match a, b with | .int i, .int j => some (.int (i + j)) | _, _ => none
theorem i_addI {C : Ct} : Op2 C (inplaceOp .Add) dAddI := i_add

/-! ### what the operators need and give -/
section
variable {i j k : Int} {a b : Bool} {ts us : List D} {d e : D} {Q : D → Prop} {c : Prop} [Decidable c]
theorem sm_add : Sm (dAdd (.int i) (.int j)) Q ↔ Q (.int (i + j)) := sm_some
theorem sm_addI : Sm (dAddI (.int i) (.int j)) Q ↔ Q (.int (i + j)) := sm_some
theorem sm_addL : Sm (dAdd (.list ts) (.list us)) Q ↔ ts.length + us.length ≤ 16777216 ∧ Q (.list (ts ++ us)) := sm_if
theorem sm_addT : Sm (dAdd (.tuple ts) (.tuple us)) Q ↔ ts.length + us.length ≤ 16777216 ∧ Q (.tuple (ts ++ us)) := sm_if
theorem sm_cat : Sm (dCat (.list ts) (.list us)) Q ↔ ts.length + us.length ≤ 16777216 ∧ Q (.list (ts ++ us)) := sm_if
theorem sm_sub : Sm (dSub (.int i) (.int j)) Q ↔ Q (.int (i - j)) := sm_some
theorem sm_mul : Sm (dMul (.int i) (.int j)) Q ↔ mulOk i j = true ∧ Q (.int (i * j)) := sm_if
theorem sm_div : Sm (dDiv (.int i) (.int j)) Q ↔ divOk j = true ∧ Q (.int (i / j)) := sm_if
theorem sm_mod : Sm (dMod (.int i) (.int j)) Q ↔ 0 < j ∧ Q (.int (i % j)) := sm_if
theorem sm_pow : Sm (dPow (.int i) (.int j)) Q ↔ (0 ≤ j ∧ j ≤ 1000000 ∧ i.natAbs < 2 ^ 64) ∧ Q (.int (i ^ j.toNat)) := sm_if
theorem sm_neg : Sm (dNeg (.int i)) Q ↔ Q (.int (-i)) := sm_some
theorem sm_lt : Sm (dLt (.int i) (.int j)) Q ↔ Q (.bool (decide (i < j))) := sm_some
theorem sm_le : Sm (dLe (.int i) (.int j)) Q ↔ Q (.bool (decide (i ≤ j))) := sm_some
theorem sm_gt : Sm (dGt (.int i) (.int j)) Q ↔ Q (.bool (decide (j < i))) := sm_some
theorem sm_ge : Sm (dGe (.int i) (.int j)) Q ↔ Q (.bool (decide (j ≤ i))) := sm_some
theorem eqv_int : PyData.eqv (.int i) (.int j) = decide (i = j) := by
  rw [PyData.eqv]
  by_cases h : i = j
  · simp [h]
  · simp [h]
theorem sm_eqI : Sm (dEq (.int i) (.int j)) Q ↔ Q (.bool (decide (i = j))) := by
  show Sm (if SeqAt.shaped (.int i) && SeqAt.shaped (.int j) then some (PyData.bool (PyData.eqv (.int i) (.int j))) else none) Q ↔ _
  rw [if_pos (by rfl), sm_some, eqv_int]
theorem sm_neI : Sm (dNe (.int i) (.int j)) Q ↔ Q (.bool (!decide (i = j))) := by
  show Sm (if SeqAt.shaped (.int i) && SeqAt.shaped (.int j) then some (PyData.bool (!PyData.eqv (.int i) (.int j))) else none) Q ↔ _
  rw [if_pos (by rfl), sm_some, eqv_int]
theorem sm_eqB : Sm (dEq (.bool a) (.bool b)) Q ↔ Q (.bool (a == b)) := by
  show Sm (if SeqAt.shaped (.bool a) && SeqAt.shaped (.bool b) then some (PyData.bool (PyData.eqv (.bool a) (.bool b))) else none) Q ↔ _
  rw [if_pos (by rfl), sm_some]; rfl
theorem sm_neB : Sm (dNe (.bool a) (.bool b)) Q ↔ Q (.bool (!(a == b))) := by
  show Sm (if SeqAt.shaped (.bool a) && SeqAt.shaped (.bool b) then some (PyData.bool (!PyData.eqv (.bool a) (.bool b))) else none) Q ↔ _
  rw [if_pos (by rfl), sm_some]; rfl
theorem eqv_same (h : SeqAt.shaped d = true) : PyData.eqv d d = true := SeqAt.eqv_refl d (SeqAt.canLay_of_shaped h)
theorem sm_eqS (h : SeqAt.shaped d = true) (q : Q (.bool true)) : Sm (dEq d d) Q := by
  unfold dEq
  rw [if_pos (by rw [h]; rfl), sm_some, eqv_same h]
  exact q
theorem sm_neS (h : SeqAt.shaped d = true) (q : Q (.bool false)) : Sm (dNe d d) Q := by
  unfold dNe
  rw [if_pos (by rw [h]; rfl), sm_some, eqv_same h]
  exact q
theorem sm_isN : Sm (dIs d .none) Q ↔ Q (.bool (isNn d)) := by cases d <;> exact sm_some
theorem sm_isNotN : Sm (dIsNot d .none) Q ↔ Q (.bool (!isNn d)) := by cases d <;> exact sm_some
theorem sm_truI : Sm (dTru (.int i)) Q ↔ Q (.bool (!decide (i = 0))) := by
  show Sm (some (PyData.bool (i != 0))) Q ↔ _
  rw [sm_some]
  have : (i != 0) = !decide (i = 0) := by by_cases h : i = 0 <;> simp [h]
  rw [this]
theorem sm_truB : Sm (dTru (.bool a)) Q ↔ Q (.bool a) := sm_some
theorem sm_truN : Sm (dTru .none) Q ↔ Q (.bool false) := sm_some
theorem sm_truL : Sm (dTru (.list ts)) Q ↔ Q (.bool (!ts.isEmpty)) := sm_some
theorem sm_truT : Sm (dTru (.tuple ts)) Q ↔ Q (.bool (!ts.isEmpty)) := sm_some
theorem sm_not : Sm (dNot (.bool a)) Q ↔ Q (.bool (!a)) := sm_some
theorem sm_ixL : Sm (dIx (.list ts) (.int i)) Q ↔ Sm (atI ts i) Q := Iff.rfl
theorem sm_ixT : Sm (dIx (.tuple ts) (.int i)) Q ↔ Sm (atI ts i) Q := Iff.rfl
theorem at_nat {α : Type} {ts : List α} {n : Nat} {x : α} (h : ts[n]? = some x) : atI ts (n : Int) = some x := by
  have hl := (List.getElem?_eq_some_iff.mp h).1
  unfold atI ixN
  rw [if_pos (by omega), if_pos (by omega)]
  simpa using h
theorem at_int {α : Type} {ts : List α} {i : Int} {x : α} (h0 : 0 ≤ i) (h : ts[i.toNat]? = some x) : atI ts i = some x := by
  have := at_nat h
  rwa [Int.toNat_of_nonneg h0] at this
theorem sm_at {α : Type} {ts : List α} {i : Int} {x : α} {Q : α → Prop} (h0 : 0 ≤ i) (h : ts[i.toNat]? = some x) (q : Q x) : Sm (atI ts i) Q := Sm.of (at_int h0 h) q
theorem sm_at0 {α : Type} {t : α} {ts : List α} {Q : α → Prop} : Sm (atI (t :: ts) 0) Q ↔ Q t := by
  rw [show ∀ {ts : List α}, atI ts 0 = atI ts ((0 : Nat) : Int) from rfl, at_nat (n := 0) (x := t) rfl, sm_some]
theorem sm_at1 {α : Type} {t u : α} {ts : List α} {Q : α → Prop} : Sm (atI (t :: u :: ts) 1) Q ↔ Q u := by
  rw [show ∀ {ts : List α}, atI ts 1 = atI ts ((1 : Nat) : Int) from rfl, at_nat (n := 1) (x := u) rfl, sm_some]
theorem sm_at2 {α : Type} {t u w : α} {ts : List α} {Q : α → Prop} : Sm (atI (t :: u :: w :: ts) 2) Q ↔ Q w := by
  rw [show ∀ {ts : List α}, atI ts 2 = atI ts ((2 : Nat) : Int) from rfl, at_nat (n := 2) (x := w) rfl, sm_some]
theorem sm_lenL : Sm (dLen [.list ts]) Q ↔ Q (.int ts.length) := sm_some
theorem sm_lenT : Sm (dLen [.tuple ts]) Q ↔ Q (.int ts.length) := sm_some
theorem sm_abs : Sm (dAbs [.int i]) Q ↔ Q (.int (if i < 0 then -i else i)) := sm_some
theorem sm_int : Sm (dInt [.int i]) Q ↔ Q (.int i) := sm_some
theorem sm_intB : Sm (dInt [.bool a]) Q ↔ Q (.int (if a then 1 else 0)) := sm_some
theorem sm_max2 : Sm (dMax2 [.int i, .int j]) Q ↔ Q (.int (if j > i then j else i)) := sm_some
theorem sm_min2 : Sm (dMin2 [.int i, .int j]) Q ↔ Q (.int (if j < i then j else i)) := sm_some
theorem sm_listL : Sm (dList [.list ts]) Q ↔ Q (.list ts) := sm_some
theorem sm_listT : Sm (dList [.tuple ts]) Q ↔ Q (.list ts) := sm_some
theorem sm_tupL : Sm (dTuple [.list ts]) Q ↔ Q (.tuple ts) := sm_some
theorem sm_tupT : Sm (dTuple [.tuple ts]) Q ↔ Q (.tuple ts) := sm_some
theorem sm_seqL : Sm (dSeq (.list ts)) Q ↔ Q (.list ts) := sm_some
theorem sm_seqT : Sm (dSeq (.tuple ts)) Q ↔ Q (.list ts) := sm_some
theorem sm_lsL : Sm (dLs (.list ts)) Q ↔ Q (.list ts) := sm_some
theorem sm_rng1 : Sm (dRng1 [.int j]) Q ↔ (-(2 ^ 62) ≤ j ∧ j < 2 ^ 62) ∧ Q (.list (rngD 0 j.toNat)) := sm_if
theorem sm_rng2 : Sm (dRng2 [.int i, .int j]) Q ↔ (-(2 ^ 62) ≤ i ∧ i < 2 ^ 62 ∧ -(2 ^ 62) ≤ j ∧ j < 2 ^ 62) ∧ Q (.list (rngD i (j - i).toNat)) := sm_if
theorem sm_rng3 : Sm (dRng3 [.int i, .int j, .int k]) Q ↔ rgOk i j k = true ∧ Q (.list (rngC i (Builtin.Range.rangeSize i j k).toNat k)) := sm_if
theorem sm_app : Sm (dApp (.list ts) d) Q ↔ ts.length < 16777216 ∧ Q (.list (ts ++ [d])) := sm_if
theorem sm_setL {n : Nat} (h : n < ts.length) : Sm (dSetL (.list ts) (.int (n : Int)) d) Q ↔ Q (.list (ts.set n d)) := by
  show Sm ((ixN ts.length (n : Int)).map fun j => PyData.list (ts.set j d)) Q ↔ _
  unfold ixN
  rw [if_pos (by omega), if_pos (by omega), sm_map, sm_some]
  simp
theorem sm_rep1 : Sm (dRep (.list [d]) (.int k)) Q ↔ (-(2 ^ 63) ≤ k ∧ k < 2 ^ 63 ∧ 1 * k.toNat ≤ 16777216) ∧ Q (.list (List.replicate k.toNat d)) := by
  show Sm (if -(2 ^ 63) ≤ k ∧ k < 2 ^ 63 ∧ [d].length * k.toNat ≤ 16777216 then some (PyData.list (List.replicate k.toNat [d]).flatten) else none) Q ↔ _
  rw [sm_if]
  have : (List.replicate k.toNat [d]).flatten = List.replicate k.toNat d := by
    induction k.toNat with
    | zero => rfl
    | succ n ih => rw [List.replicate_succ, List.replicate_succ, List.flatten_cons, ih]; rfl
  rw [this]
  rfl
theorem sm_set1 {n : Nat} {env : Env} {Q : Env → Prop} : Sm (setT (.one n) d env) Q ↔ Q (env.set n (.sh d)) := sm_some
theorem sm_setN {env : Env} {Q : Env → Prop} : Sm (setT .nil (.tuple []) env) Q ↔ Q env := sm_some
theorem sm_setC {t r : Tg} {env : Env} {Q : Env → Prop} : Sm (setT (.cons t r) (.tuple (d :: ts)) env) Q ↔ Sm (setT t d env) fun e => Sm (setT r (.tuple ts) e) Q := sm_bind
theorem sm_mixN {env : Env} {Q : Env → Prop} : Sm (setMix env [] []) Q ↔ Q env := sm_some
theorem sm_mixC {n : Nat} {o : Bool} {is : List (Nat × Bool)} {env : Env} {Q : Env → Prop} : Sm (setMix env ((n, o) :: is) (d :: ts)) Q ↔ Sm (setMix (env.set n (if o then .ow d else .sh d)) is ts) Q := Iff.rfl
theorem sm_isi {T : String} : Sm (dIsi T d) Q ↔ Q (.bool (isiB (tyD d) T)) := sm_some
theorem sm_isi2 {T U : String} : Sm (dIsi2 T U d) Q ↔ Q (.bool (isiB (tyD d) T || isiB (tyD d) U)) := sm_some
theorem wipe_n {env : Env} : wipeE env [] = env := rfl
theorem wipe_c {env : Env} {n : Nat} {ns : List Nat} : wipeE env (n :: ns) = (wipeE env ns).set n .no := rfl
theorem br_tt {P R : Prop} : Br (.bool (true == true)) P R ↔ P := Iff.rfl
end

/-! ### sizes -/
/-- fewer than 2^k -/
def Sz (k : Nat) (i : Int) : Prop := i.natAbs < 2 ^ k
theorem Sz.mono {k m : Nat} {i : Int} (h : Sz k i) (l : k ≤ m) : Sz m i := Nat.lt_of_lt_of_le h (Nat.pow_le_pow_right (by decide) l)
theorem Sz.log {k : Nat} {i : Int} (h : Sz k i) : i.natAbs.log2 ≤ k := by
  by_cases h0 : i.natAbs = 0
  · rw [h0]; exact Nat.zero_le _
  · exact Nat.le_of_lt ((Nat.log2_lt h0).mpr h)
theorem mul_ok {k m : Nat} {i j : Int} (hi : Sz k i) (hj : Sz m j) (h : k + m < 100000000 := by decide) : mulOk i j = true := by
  have := hi.log
  have := hj.log
  unfold mulOk
  simp
  omega
theorem div_ok {k : Nat} {j : Int} (h0 : 0 < j) (hj : Sz k j) (h : k < 9000 := by decide) : divOk j = true := by
  have := hj.log
  unfold divOk
  simp
  omega
theorem Sz.mul {k m : Nat} {i j : Int} (hi : Sz k i) (hj : Sz m j) : Sz (k + m) (i * j) := by
  unfold Sz at *
  rw [Int.natAbs_mul, Nat.pow_add]
  exact Nat.mul_lt_mul_of_lt_of_le hi (Nat.le_of_lt hj) (Nat.two_pow_pos m)
theorem Sz.add {k : Nat} {i j : Int} (hi : Sz k i) (hj : Sz k j) : Sz (k + 1) (i + j) := by
  unfold Sz at *
  have := Int.natAbs_add_le i j
  rw [Nat.pow_succ]
  omega
theorem Sz.sub {k : Nat} {i j : Int} (hi : Sz k i) (hj : Sz k j) : Sz (k + 1) (i - j) := by
  unfold Sz at *
  have := Int.natAbs_sub_le i j
  rw [Nat.pow_succ]
  omega
theorem Sz.of {i : Int} (h1 : -4611686018427387904 < i := by omega) (h2 : i < 4611686018427387904 := by omega) : Sz 62 i := by
  unfold Sz
  omega
theorem Sz.mod {k : Nat} {i j : Int} (h0 : 0 < j) (hj : Sz k j) : Sz k (i % j) := by
  have h1 := Int.emod_nonneg i (show j ≠ 0 by omega)
  have h2 := Int.emod_lt_of_pos i h0
  unfold Sz at *
  omega
theorem Sz.le {k : Nat} {i j : Int} (hj : Sz k j) (h0 : 0 ≤ i) (h : i ≤ j) : Sz k i := by unfold Sz at *; omega
theorem Sz.div {k : Nat} {i j : Int} (hi : Sz k i) (h0 : 0 ≤ i) (hj : 0 < j) : Sz k (i / j) := by
  have h1 := Int.ediv_nonneg h0 (Int.le_of_lt hj)
  have h2 := Int.ediv_le_self (a := i) j h0
  exact hi.le h1 h2
/-- small times small -/
theorem mul_sm {i j : Int} (h1 : -4611686018427387904 < i := by omega) (h2 : i < 4611686018427387904 := by omega) (h3 : -4611686018427387904 < j := by omega) (h4 : j < 4611686018427387904 := by omega) : mulOk i j = true := mul_ok (Sz.of h1 h2) (Sz.of h3 h4)
theorem div_sm {j : Int} (h1 : 0 < j := by omega) (h2 : j < 4611686018427387904 := by omega) : divOk j = true := div_ok h1 (Sz.of (by omega) h2)
theorem sm_item0 {a b : Int} {Q : D → Prop} : Sm (dItem (.list [.int a, .int b]) 0) Q ↔ Q (.int a) := sm_some
theorem sm_item1 {a b : Int} {Q : D → Prop} : Sm (dItem (.list [.int a, .int b]) 1) Q ↔ Q (.int b) := sm_some
theorem sm_iset0 {a b c : Int} {Q : D → Prop} : Sm (dItemSet (.list [.int a, .int b]) 0 (.int c)) Q ↔ Q (.list [.int c, .int b]) := sm_some
theorem sm_iset1 {a b c : Int} {Q : D → Prop} : Sm (dItemSet (.list [.int a, .int b]) 1 (.int c)) Q ↔ Q (.list [.int a, .int c]) := sm_some
theorem W.cut {a b : ZS} {env : Env} {st : SD} {P Q : Out → Prop} (h : W a env st P) (q : ∀ o, P o → Kq b Q o) : W (.seq a b) env st Q := W.seq (h.mono q)
theorem sm_allT {l : List D} {Q : D → Prop} (h : ∀ x ∈ l, x = .bool true) (q : Q (.bool true)) : Sm (dAllB [.list l]) Q := by
  show Sm (if l.all (fun t => match t with | .bool _ => true | _ => false) then some (PyData.bool (l.all fun t => match t with | .bool b => b | _ => false)) else none) Q
  have h1 : l.all (fun t => match t with | .bool _ => true | _ => false) = true := by
    rw [List.all_eq_true]; intro x hx; rw [h x hx]
  have h2 : l.all (fun t => match t with | .bool b => b | _ => false) = true := by
    rw [List.all_eq_true]; intro x hx; rw [h x hx]
  rw [if_pos h1, sm_some, h2]
  exact q
end Z
namespace Z
open PySem PySem.Spec PyProof.Rows L2
/-! ### what the end of a law wants -/
theorem fLaw_len : ∀ args r, fLaw args = some r → args.length = 1 := fun args r h => by obtain ⟨ns, _, rfl, _⟩ := fLaw_some h; rfl
theorem bl_nil {mg : Str → Option Value} : ∀ n ∈ ([] : List Str), mg n = none := fun n h => by cases h
theorem bl_cons {mg : Str → Option Value} {a : Str} {l : List Str} (h : mg a = none) (t : ∀ n ∈ l, mg n = none) : ∀ n ∈ a :: l, mg n = none := List.forall_mem_cons.2 ⟨h, t⟩
section
variable {P : Program} {w : World} {K : PySem.W.Frag} {mg : Str → Option Value} {base : Heap} {k : Nat}
theorem fe_nil : ∀ e ∈ ([] : List FE), FeOk P w K mg base k e := fun n h => by cases h
theorem fe_cons {a : FE} {l : List FE} (h : FeOk P w K mg base k a) (t : ∀ e ∈ l, FeOk P w K mg base k e) : ∀ e ∈ a :: l, FeOk P w K mg base k e := List.forall_mem_cons.2 ⟨h, t⟩
end
theorem ev_of {z : ZS} {env : Env} {r : D} (h : W z env none fun o => o = .ret r none) : ∃ n st', evS n z env none = some (.ret r st') := by
  obtain ⟨n, o, e, rfl⟩ := h
  exact ⟨n, none, e⟩
theorem ev_ofS {z : ZS} {env : Env} {r t t' : D} (h : W z env (some t) fun o => o = .ret r (some t')) : ∃ n, evS n z env (some t) = some (.ret r (some t')) := by
  obtain ⟨n, o, e, rfl⟩ := h
  exact ⟨n, e⟩
theorem ev_law_of {z : ZS} {n : Nat} (h : ∀ ns, Good63 ns → W z (mkEnv n [.list (ns.map PyData.int)]) none fun o => ∃ st, o = .ret (.bool true) st) : ∀ args r, fLaw args = some r → ∃ m st', evS m z (mkEnv n args) none = some (.ret r st') := by
  intro args r e
  obtain ⟨ns, hg, rfl, rfl⟩ := fLaw_some e
  obtain ⟨m, o, e, st, rfl⟩ := h ns hg
  exact ⟨m, st, e⟩
end Z
namespace Z
open PySem PySem.Spec PyProof.Rows L2
/-! ### a def's meaning is what its text comes to -/
theorem evS_det {n m : Nat} {z : ZS} {env : Env} {st : SD} {o o' : Out} (h : evS n z env st = some o) (h' : evS m z env st = some o') : o = o' := by
  have a := evS_mono (Nat.le_max_left n m) h
  have b := evS_mono (Nat.le_max_right n m) h'
  exact Option.some.inj (a.symm.trans b)
open Classical in
noncomputable def FV (k N : Nat) (z : ZS) : List D → Option D := fun args => if h : args.length = k ∧ ∃ r, ∃ n st, evS n z (mkEnv N args) none = some (.ret r st) then some (Classical.choose h.2) else none
open Classical in
noncomputable def FVs (k N : Nat) (z : ZS) : D → List D → Option (D × D) := fun t args => if h : args.length + 1 = k ∧ ∃ r : D × D, ∃ n, evS n z (mkEnvS N args) (some t) = some (.ret r.1 (some r.2)) then some (Classical.choose h.2) else none
variable {k N : Nat} {z : ZS} {args : List D} {r : D}
theorem FV.ln : ∀ args r, FV k N z args = some r → args.length = k := fun args r h => by
  unfold FV at h
  split at h
  · rename_i hh; exact hh.1
  · cases h
theorem FV.ev : ∀ args r, FV k N z args = some r → ∃ n st', evS n z (mkEnv N args) none = some (.ret r st') := fun args r h => by
  unfold FV at h
  split at h
  · rename_i hh; cases h; exact Classical.choose_spec hh.2
  · cases h
theorem FV.sm {Q : D → Prop} (hl : args.length = k) (h : W z (mkEnv N args) none fun o => ∃ r st, o = .ret r st ∧ Q r) : Sm (FV k N z args) Q := by
  obtain ⟨n, o, e, r, st, rfl, q⟩ := h
  have hh : args.length = k ∧ ∃ r, ∃ n st, evS n z (mkEnv N args) none = some (.ret r st) := ⟨hl, r, n, st, e⟩
  refine ⟨Classical.choose hh.2, by unfold FV; rw [dif_pos hh], ?_⟩
  obtain ⟨m, st', e'⟩ := Classical.choose_spec hh.2
  have := evS_det e e'
  cases this
  exact q
theorem FV.sm1 {Q : D → Prop} {st : SD} (hl : args.length = k) (h : W z (mkEnv N args) none fun o => o = .ret r st) (q : Q r) : Sm (FV k N z args) Q := FV.sm hl (h.mono fun _ e => ⟨r, st, e, q⟩)
theorem FVs.ln : ∀ t args r, FVs k N z t args = some r → args.length + 1 = k := fun t args r h => by
  unfold FVs at h
  split at h
  · rename_i hh; exact hh.1
  · cases h
theorem FVs.ev : ∀ t args r t', FVs k N z t args = some (r, t') → ∃ n, evS n z (mkEnvS N args) (some t) = some (.ret r (some t')) := fun t args r t' h => by
  unfold FVs at h
  split at h
  · rename_i hh
    have e := Option.some.inj h
    have := Classical.choose_spec hh.2
    rw [e] at this
    exact this
  · cases h
theorem FVs.sm {t : D} {Q : D × D → Prop} (hl : args.length + 1 = k) (h : W z (mkEnvS N args) (some t) fun o => ∃ r t', o = .ret r (some t') ∧ Q (r, t')) : Sm (FVs k N z t args) Q := by
  obtain ⟨n, o, e, r, t', rfl, q⟩ := h
  have hh : args.length + 1 = k ∧ ∃ r : D × D, ∃ n, evS n z (mkEnvS N args) (some t) = some (.ret r.1 (some r.2)) := ⟨hl, (r, t'), n, e⟩
  refine ⟨Classical.choose hh.2, by unfold FVs; rw [dif_pos hh], ?_⟩
  obtain ⟨m, e'⟩ := Classical.choose_spec hh.2
  have := evS_det e e'
  simp only [Out.ret.injEq, Option.some.injEq] at this
  have e2 : (r, t') = Classical.choose hh.2 := Prod.ext this.1 this.2
  rw [← e2]
  exact q
/-- a loop over a range that changes one slot -/
theorem W.acc {i v : Nat} {b : ZS} {it : ZE} {env : Env} {st : SD} {Q : Out → Prop} (f : Nat → D) (lo : Int) (k : Nat) (h0 : E it env st fun x s => x = .list (rngD lo k) ∧ s = st) (hi : env[i]? = some (.sh (f 0))) (hv : v < env.length) (hiv : i ≠ v)
    (hs : ∀ j, j < k → W b ((env.set i (.sh (f j))).set v (.sh (.int (lo + (j : Nat))))) st (fun o => o = .nx ((env.set i (.sh (f (j + 1)))).set v (.sh (.int (lo + (j : Nat))))) st))
    (hn : ∀ s, Q (.nx ((env.set i (.sh (f k))).set v s) st)) : W (.forr (.one v) it b) env st Q := by
  refine W.rng (fun t env' st' => ∃ (j : Nat) (s : Sl), env' = (env.set i (.sh (f j))).set v s ∧ st' = st ∧ t = lo + (j : Nat)) lo k h0 ⟨0, env[v], ?_, rfl, by simp⟩ ?_ ?_
  · have e1 : env.set i (.sh (f 0)) = env := by
      apply List.ext_getElem?
      intro j
      by_cases hj : i = j
      · subst hj
        rw [List.getElem?_set_self (List.getElem?_eq_some_iff.mp hi).1, hi]
      · rw [List.getElem?_set_ne hj]
    rw [e1]
    apply List.ext_getElem?
    intro j
    by_cases hj : v = j
    · subst hj
      rw [List.getElem?_set_self hv, List.getElem?_eq_getElem hv]
    · rw [List.getElem?_set_ne hj]
  · rintro env' st' ⟨j, s, rfl, rfl, hj⟩
    have : j = k := by omega
    subst this
    exact hn s
  · rintro t env' st' h1 h2 ⟨j, s, rfl, rfl, rfl⟩
    rw [sm_set1, List.set_set]
    refine (hs j (by omega)).mono fun o e => ?_
    subst e
    exact ⟨j + 1, _, rfl, rfl, by omega⟩
end Z
namespace Z
open PySem PySem.Spec PyProof.Rows L2
/-! ### draws from cells that stand in the state's first place -/
def drawA : D → List D → Option (D × D)
  | .list [.list cs, .int s], [.int m] => if (isInts cs && divOk m && decide (s.natAbs.log2 < 1000)) = true then
      (match (toInts cs).dropWhile (· == 0) with
        | v :: r => some (.int (v % m), .list [.list ((v / m :: r).map PyData.int), .int s])
        | [] => some (.int ((s * 48271 + 12345) % 2147483647 / 64 % m), .list [.list [], .int ((s * 48271 + 12345) % 2147483647)]))
    else none
  | _, _ => none
theorem drawA_ev {t : D} {args : List D} {r t' : D} (h : drawA t args = some (r, t')) : ∃ (ns : List Int) (s m : Int), t = .list [.list (ns.map PyData.int), .int s] ∧ args = [.int m] ∧ divOk m = true ∧ s.natAbs.log2 < 1000 ∧
    ((∃ v rest, ns.dropWhile (· == 0) = v :: rest ∧ r = .int (v % m) ∧ t' = .list [.list ((v / m :: rest).map PyData.int), .int s]) ∨
     (ns.dropWhile (· == 0) = [] ∧ r = .int ((s * 48271 + 12345) % 2147483647 / 64 % m) ∧ t' = .list [.list [], .int ((s * 48271 + 12345) % 2147483647)])) := by
  unfold drawA at h
  split at h
  · rename_i cs s m
    split at h
    · rename_i hc
      simp only [Bool.and_eq_true, decide_eq_true_eq] at hc
      obtain ⟨⟨h1, h2⟩, h3⟩ := hc
      have e := ints_of h1
      refine ⟨toInts cs, s, m, by rw [← e], rfl, h2, h3, ?_⟩
      split at h
      · rename_i v rest hd
        cases h
        exact .inl ⟨v, rest, hd, rfl, rfl⟩
      · rename_i hd
        cases h
        exact .inr ⟨hd, rfl, rfl⟩
    · cases h
  · cases h

/-! ### a def that makes the state -/
theorem fn_mk {P : Program} {w : World} {K : PySem.W.Frag} {mg : Str → Option Value} {base : Heap} {nm qual : Str} {stt : Stmt} {f : Addr} {fd : FuncData} {N ps : List Str} {k : Nat} {C : Ct} {z1 z2 : ZS} {zc ze : ZE} {s1 s2 : Stmt} {c e : Expr} {p1 p2 : Pos} {fs : List D → Option D}
    (Fn : Fun K nm qual stt f fd) (S : FnScope N ps (defScope stt)) (ct : CtOk P w K mg base k C) (hb : defBody stt = [s1, s2, .Return (some (.List [c, e] p1)) p2])
    (d1 : QS C N (defScope stt) s1 z1) (d2 : QS C N (defScope stt) s2 z2) (dc : QF C N (defScope stt) c zc) (de : QE C N (defScope stt) e ze) (hlen : ∀ args r, fs args = some r → args.length = ps.length)
    (hev : ∀ args r, fs args = some r → ∃ (n : Nat) (env1 : Z.Env) (ns : List Int) (s : Int), evS n (.seq z1 z2) (mkEnv N.length args) none = some (.nx env1 none) ∧ evE zc env1 none = some (.list (ns.map PyData.int), none) ∧ evE ze env1 none = some (.int s, none) ∧ r = .list [.list (ns.map PyData.int), .int s])
    (he : ∀ env : PySem.Env, starEach [e] env = (false, eval e env) :: starEach [] env := by intro _; rfl) (hc : ∀ env : PySem.Env, starEach [c, e] env = (false, eval c env) :: starEach [e] env := by intro _; rfl) :
    FnOk P w K mg base CX0 (k + 1) f fd ps (spOf K (.mk fs)) := by
  have hpl : ps.length ≤ N.length := by have := congrArg List.length S.pre; rw [List.length_take] at this; omega
  refine Fn.ok S (fun vs H Q E h => ?_) (fun cdv A outer s H vs Q E hr h => ?_)
  · obtain ⟨F, args, r, hl, rr, e, _⟩ := h
    rw [← rr.length, hlen _ _ e]
  · obtain ⟨F, args, r, hl, rr, e0, q⟩ := h
    obtain ⟨n, env1, ns, s0, e1, e2, e3, rfl⟩ := hev _ _ e0
    have good := ct.good (N := N) (s := s) (H := H) (E := E) (outer := outer) S.nd hr
    refine ⟨tSeq (rdS K ⟨H, F, []⟩ z1) (tSeq (rdS K ⟨H, F, []⟩ z2) (tRet (tLst (tCons (rdF K ⟨H, F, []⟩ zc) (tCons (rdE K ⟨H, F, []⟩ ze) tNil))))), ?_, ?_⟩
    · rw [hb]
      exact pss_cons (d1 _ _ good rfl rfl rfl) (pss_cons (d2 _ _ good rfl rfl rfl) (pss_one (ps_ret (pe_lst (pa_cons (dc _ _ good rfl rfl) (pa_cons (de _ _ good rfl rfl) pa_nil (he _)) (hc _))))))
    · obtain ⟨o1, e4, e5⟩ := seq_ev e1
      cases o1 with
      | nx en st =>
        refine ⟨[], F, _, none, n, _, zi_start hl rr (by rw [hlen _ _ e0]; exact hpl), e4, fun ft1 σ1 H1 F1 ss1 I1 => ?_⟩
        refine ⟨ft1, F1, en, st, n, _, I1, e5, fun ft2 σ2 H2 F2 ss2 I2 => ?_⟩
        refine ⟨ft2, F2, env1, none, _, none, I2, e2, fun p H3 F3 st3 I3 hp np ow => ?_⟩
        refine ⟨ft2, F3, env1, none, _, none, I3, e3, fun v H4 F4 st4 I4 rp => ⟨by simp; decide, fun a na => ?_⟩⟩
        have hft : ft2 = [] := I2.sto
        subst hft
        obtain ⟨xs, hx, rl⟩ := ow.list
        obtain rfl := rl.ints
        have hv : v = .int s0 := by unfold Rep at rp; exact rp
        subst hv
        have h4 : H4 p = some (.lst (ns.map V.int)) := st4.keep p _ hx (by simp)
        have sm2 : Same H H2 := (grow_of I2.hi).same
        have sm4 : Same H H4 := (grow_of I4.hi).same
        have hap : a ≠ p := fun x => by rw [x, h4] at na; cases na
        refine q _ _ [a, p] (fun b o e => ?_) (.two ns s0 upd_same (by rw [upd_ne hap.symm]; exact h4) hap) (fun b hb => ?_)
        · have := sm4 b o e
          rw [upd_ne (fun x => by rw [x, na] at this; cases this)]
          exact this
        · simp only [List.mem_cons, List.not_mem_nil, or_false] at hb
          rcases hb with rfl | rfl
          · cases hh : H b with
            | none => rfl
            | some o => rw [sm4 b o hh] at na; cases na
          · cases hh : H b with
            | none => rfl
            | some o => rw [sm2 b o hh] at hp; cases hp
      | bk en st => cases e5
      | ct en st => cases e5
      | ret en st => cases e5
def MkP (N : Nat) (z1 : ZS) (zc ze : ZE) (args : List D) (r : D) : Prop := ∃ (n : Nat) (env1 : Z.Env) (ns : List Int) (s : Int), evS n z1 (mkEnv N args) none = some (.nx env1 none) ∧ evE zc env1 none = some (.list (ns.map PyData.int), none) ∧ evE ze env1 none = some (.int s, none) ∧ r = .list [.list (ns.map PyData.int), .int s]
open Classical in
noncomputable def FVm (k N : Nat) (z1 : ZS) (zc ze : ZE) : List D → Option D := fun args => if h : args.length = k ∧ ∃ r, MkP N z1 zc ze args r then some (Classical.choose h.2) else none
section
variable {k N : Nat} {z1 : ZS} {zc ze : ZE} {args : List D}
theorem FVm.ln : ∀ args r, FVm k N z1 zc ze args = some r → args.length = k := fun args r h => by
  unfold FVm at h
  split at h
  · rename_i hh; exact hh.1
  · cases h
theorem FVm.ev : ∀ args r, FVm k N z1 zc ze args = some r → MkP N z1 zc ze args r := fun args r h => by
  unfold FVm at h
  split at h
  · rename_i hh; cases h; exact Classical.choose_spec hh.2
  · cases h
theorem FVm.sm {Q : D → Prop} (hl : args.length = k) (h : W z1 (mkEnv N args) none fun o => ∃ env1, o = .nx env1 none ∧ E zc env1 none fun x s => ∃ ns : List Int, x = .list (ns.map PyData.int) ∧ s = none ∧ E ze env1 none fun y s' => ∃ i : Int, y = .int i ∧ s' = none ∧ Q (.list [.list (ns.map PyData.int), .int i])) : Sm (FVm k N z1 zc ze args) Q := by
  obtain ⟨n, o, e, env1, rfl, ⟨x, s⟩, e2, ns, hx, hs, ⟨y, s'⟩, e3, i, hy, hs', q⟩ := h
  simp only at hx hs hy hs'
  subst hx hs hy hs'
  have hh : args.length = k ∧ ∃ r, MkP N z1 zc ze args r := ⟨hl, _, n, env1, ns, i, e, e2, e3, rfl⟩
  refine ⟨Classical.choose hh.2, by unfold FVm; rw [dif_pos hh], ?_⟩
  obtain ⟨n', env1', ns', i', e', e2', e3', hr⟩ := Classical.choose_spec hh.2
  have := evS_det e e'
  cases this
  rw [e2] at e2'
  rw [e3] at e3'
  rw [hr]
  cases e3'
  have h1 : (ns.map PyData.int) = ns'.map PyData.int := by
    have := congrArg Prod.fst (Option.some.inj e2')
    exact PyData.list.inj this
  rw [← h1]
  exact q
end
def stB (s : Stmt) (i : Nat) : Stmt := (defBody s).getD i (.Pass ⟨0, 0, 0, 0⟩)
def exR (s : Stmt) (i : Nat) : Expr := match s with | .Return (some (.List es _)) _ => es.getD i (.Constant .none 0 ⟨0, 0, 0, 0⟩) | _ => .Constant .none 0 ⟨0, 0, 0, 0⟩
end Z
namespace Z
open PySem PySem.Spec PyProof.Rows L2
variable {C : Ct} {N : List Str} {sc : Scope} {x y w : Expr} {z zx zy zw zc ze : ZE} {pos : Pos} {es : List Expr} {M : Md} {tg tr : Tg} {s : Stmt} {ss : List Stmt} {q q1 q2 : ZS}

/-! ### dicts -/
def dKey : D → Option Key
  | .int i => some (.inl i)
  | .str x => some (.inr x)
  | _ => none
theorem dKey_ev {d : D} {k : Key} (h : dKey d = some k) : d = kD k := by
  cases d <;> simp [dKey] at h <;> subst h <;> rfl
theorem eqv_kD (a b : Key) : PyData.eqv (kD a) (kD b) = decide (a = b) := by
  cases a with
  | inl i =>
    cases b with
    | inl j => show PyData.eqv (.int i) (.int j) = _; rw [eqv_int]; simp
    | inr y => show PyData.eqv (.int i) (.str y) = _; rw [PyData.eqv]; simp
  | inr x =>
    cases b with
    | inl j => show PyData.eqv (.str x) (.int j) = _; rw [PyData.eqv]; simp
    | inr y => show PyData.eqv (.str x) (.str y) = _; rw [PyData.eqv]; by_cases h : x = y <;> simp [h]
theorem RepD.look {K H F} {k : Key} : ∀ {ts : List (D × D)} {ys : List (Key × V)}, RepD K H F ts ys → (dLook ts (kD k) = none ∧ valV ys k = none) ∨ ∃ t v, dLook ts (kD k) = some t ∧ valV ys k = some v ∧ Rep K H F t v
  | [], ys, h => by unfold RepD at h; subst h; exact .inl ⟨rfl, rfl⟩
  | (d, t) :: ts, ys, h => by
    unfold RepD at h
    obtain ⟨j, v, xs, rfl, rfl, h1, h2⟩ := h
    by_cases e : j = k
    · refine .inr ⟨t, v, ?_, valV_pos e, h1⟩
      unfold dLook
      rw [List.find?_cons, show PyData.eqv (kD j, t).1 (kD k) = true by show PyData.eqv (kD j) (kD k) = true; rw [eqv_kD]; simpa using e]
      rfl
    · have hn : dLook ((kD j, t) :: ts) (kD k) = dLook ts (kD k) := by
        unfold dLook
        rw [List.find?_cons, show PyData.eqv (kD j, t).1 (kD k) = false by show PyData.eqv (kD j) (kD k) = false; rw [eqv_kD]; simpa using e]
      rw [hn, valV_neg e]
      exact RepD.look h2
theorem RepD.any {K H F} {k : Key} : ∀ {ts : List (D × D)} {ys : List (Key × V)}, RepD K H F ts ys → (ts.any fun p => PyData.eqv p.1 (kD k)) = ys.any fun kv => decide (kv.1 = k)
  | [], ys, h => by unfold RepD at h; subst h; rfl
  | (d, t) :: ts, ys, h => by
    unfold RepD at h
    obtain ⟨j, v, xs, rfl, rfl, h1, h2⟩ := h
    rw [List.any_cons, List.any_cons, RepD.any h2]
    show (PyData.eqv (kD j) (kD k) || _) = _
    rw [eqv_kD]
theorem RepD.repl {K H F} {k : Key} {t : D} {v : V} (r : Rep K H F t v) : ∀ {ts : List (D × D)} {ys : List (Key × V)}, RepD K H F ts ys → RepD K H F (ts.map fun p => if PyData.eqv p.1 (kD k) = true then (p.1, t) else p) (ys.map fun kv => if kv.1 = k then (kv.1, v) else kv)
  | [], ys, h => by unfold RepD at h; subst h; unfold RepD; rfl
  | (d, u) :: ts, ys, h => by
    unfold RepD at h
    obtain ⟨j, x, xs, rfl, rfl, h1, h2⟩ := h
    have ih := RepD.repl (k := k) r h2
    rw [List.map_cons, List.map_cons]
    by_cases e : j = k
    · have e2 : PyData.eqv (kD j, u).1 (kD k) = true := by show PyData.eqv (kD j) (kD k) = true; rw [eqv_kD]; simpa using e
      rw [if_pos e2, if_pos e]
      unfold RepD
      exact ⟨j, v, _, rfl, rfl, r, ih⟩
    · have e2 : ¬ PyData.eqv (kD j, u).1 (kD k) = true := by show ¬ PyData.eqv (kD j) (kD k) = true; rw [eqv_kD]; simpa using e
      rw [if_neg e2, if_neg e]
      unfold RepD
      exact ⟨j, x, _, rfl, rfl, h1, ih⟩
theorem RepD.snoc {K H F} {k : Key} {t : D} {v : V} (r : Rep K H F t v) : ∀ {ts : List (D × D)} {ys : List (Key × V)}, RepD K H F ts ys → RepD K H F (ts ++ [(kD k, t)]) (ys ++ [(k, v)])
  | [], ys, h => by
    unfold RepD at h
    subst h
    show RepD K H F [(kD k, t)] [(k, v)]
    unfold RepD
    exact ⟨k, v, [], rfl, rfl, r, by unfold RepD; rfl⟩
  | (d, u) :: ts, ys, h => by
    unfold RepD at h
    obtain ⟨j, x, xs, rfl, rfl, h1, h2⟩ := h
    show RepD K H F ((kD j, u) :: (ts ++ [(kD k, t)])) ((j, x) :: (xs ++ [(k, v)]))
    unfold RepD
    exact ⟨j, x, _, rfl, rfl, h1, RepD.snoc r h2⟩
theorem RepD.put {K H F} {k : Key} {t : D} {v : V} {ts : List (D × D)} {ys : List (Key × V)} (h : RepD K H F ts ys) (r : Rep K H F t v) : RepD K H F (dPut ts (kD k) t) (putK ys k v) := by
  unfold dPut putK
  rw [RepD.any h]
  split
  · exact RepD.repl r h
  · exact RepD.snoc r h
theorem RepD.drop {K H F} {k : Key} : ∀ {ts : List (D × D)} {ys : List (Key × V)}, RepD K H F ts ys → RepD K H F (ts.filter fun p => !PyData.eqv p.1 (kD k)) (dropK ys k)
  | [], ys, h => by unfold RepD at h; subst h; show RepD K H F [] []; unfold RepD; rfl
  | (d, u) :: ts, ys, h => by
    unfold RepD at h
    obtain ⟨j, x, xs, rfl, rfl, h1, h2⟩ := h
    have ih := RepD.drop (k := k) h2
    unfold dropK at ih ⊢
    rw [List.filter_cons, List.filter_cons]
    show RepD K H F (if (!PyData.eqv (kD j) (kD k)) = true then _ else _) _
    rw [eqv_kD]
    by_cases e : j = k
    · rw [if_neg (by simp [e]), if_neg (by simp [e])]
      exact ih
    · rw [if_pos (by simp [e]), if_pos (by simp [e])]
      unfold RepD
      exact ⟨j, x, _, rfl, rfl, h1, ih⟩
def dGetD : D → D → Option D
  | .dict kvs, k => (dKey k).bind fun _ => dLook kvs k
  | _, _ => none
def dInD : D → D → Option D
  | k, .dict kvs => (dKey k).map fun _ => .bool (dLook kvs k).isSome
  | _, _ => none
def dNotInD : D → D → Option D
  | k, .dict kvs => (dKey k).map fun _ => .bool (!(dLook kvs k).isSome)
  | _, _ => none
def dSetD : D → D → D → Option D
  | .dict kvs, k, t => (dKey k).bind fun _ => if kvs.length < 16777216 then some (.dict (dPut kvs k t)) else none
  | _, _, _ => none
def dDelD : D → D → Option D
  | .dict kvs, k => (dKey k).bind fun _ => (dLook kvs k).map fun _ => .dict (kvs.filter fun p => !PyData.eqv p.1 k)
  | _, _ => none
theorem rep_key {K H F} {k : Key} {v : V} (h : Rep K H F (kD k) v) : v = kV k := by
  cases k with
  | inl i => unfold kD Rep at h; exact h
  | inr i => unfold kD Rep at h; exact h
theorem rr_key {K ft H F} {k : Key} {v : V} (h : RR K ft H F (kD k) v) : v = kV k := by
  cases k with
  | inl i => exact RR.int h
  | inr i => exact rep_key (k := .inr i) (show Rep K H F (.str i) v from h)
theorem dget_of {K ft H F kvs} {k : Key} {v : V} {t : D} (h : RR K ft H F (.dict kvs) v) (e : dLook kvs (kD k) = some t) : ∃ a u, v = .ref a ∧ DGet H a (kV k) (some u) ∧ Rep K H F t u := by
  obtain ⟨a, ys, rfl, h0, h1, h2⟩ := h
  rcases h2.look (k := k) with ⟨e1, _⟩ | ⟨t', u, e1, e2, r⟩
  · rw [e1] at e; cases e
  · rw [e1] at e
    cases e
    refine ⟨a, u, rfl, ?_, r⟩
    rw [← e2]
    exact DGet.k h1
theorem dlook_of {K ft H F kvs} {k : Key} {v : V} (h : RR K ft H F (.dict kvs) v) : ∃ a o, v = .ref a ∧ DGet H a (kV k) o ∧ o.isSome = (dLook kvs (kD k)).isSome := by
  obtain ⟨a, ys, rfl, h0, h1, h2⟩ := h
  refine ⟨a, valV ys k, rfl, DGet.k h1, ?_⟩
  rcases h2.look (k := k) with ⟨e1, e2⟩ | ⟨t', u, e1, e2, r⟩ <;> rw [e1, e2] <;> rfl
theorem good_u {X : Cx} (g : Good C X) : X.A.units + 1 < cLine := by have := g.room.un; omega
/-- d[k] -/
theorem qe_dget (hx : QR C N sc x zx) (hy : QR C N sc y zy) (hs : NoSl y := by intro _ _; rfl) : QE C N sc (.Subscript x y pos) (.op2 dGetD zx zy) := fun X G g n e =>
  (pe_dget (good_u g) (hx X G g n e) (hy X G g n e) hs).wk fun σ H Q ⟨ft, F, env, st, r, st', I, ev, q⟩ => by
    obtain ⟨a, st1, b, e1, e2, e3⟩ := bin_ev ev
    cases a <;> simp only [dGetD] at e3 <;> try (cases e3; done)
    rename_i kvs
    cases hk : dKey b with
    | none => rw [hk] at e3; cases e3
    | some k =>
      rw [hk] at e3
      simp only [Option.bind_some] at e3
      obtain rfl := dKey_ev hk
      refine ⟨ft, F, env, st, _, st1, I, e1, fun v1 H1 F1 s1 I1 r1 => ⟨ft, F1, env, st1, _, st', I1, e2, fun v2 H2 F2 s2 I2 r2 => ?_⟩⟩
      obtain ⟨a, u, rfl, hg, ru⟩ := dget_of (s2.rr I1.hi r1) e3
      refine ⟨a, u, rfl, by rw [rr_key r2]; exact hg, q u H2 F2 (s1.trans s2) I2 ru⟩
theorem rd_din {K : PySem.W.Frag} {G : Act} {σ : L2.St} {H : Hp} {Q : VK} (h : rdE K G (.op2 dInD zx zy) σ H Q) : tDIn (rdR K G zx) (rdR K G zy) σ H Q := by
  obtain ⟨ft, F, env, st, r, st', I, ev, q⟩ := h
  obtain ⟨a, st1, b, e1, e2, e3⟩ := bin_ev ev
  cases b <;> simp only [dInD] at e3 <;> try (cases e3; done)
  rename_i kvs
  cases hk : dKey a with
  | none => rw [hk] at e3; cases e3
  | some k =>
    rw [hk] at e3
    cases e3
    obtain rfl := dKey_ev hk
    refine ⟨ft, F, env, st, _, st1, I, e1, fun v1 H1 F1 s1 I1 r1 => ⟨ft, F1, env, st1, _, st', I1, e2, fun v2 H2 F2 s2 I2 r2 => ?_⟩⟩
    obtain ⟨a, o, rfl, hg, ho⟩ := dlook_of (k := k) r2
    refine ⟨a, o, rfl, by rw [rr_key (s2.rr I1.hi r1)]; exact hg, q _ H2 F2 (s1.trans s2) I2 ?_⟩
    rw [ho]
    exact rep_bl
theorem rd_dnotin {K : PySem.W.Frag} {G : Act} {σ : L2.St} {H : Hp} {Q : VK} (h : rdE K G (.op2 dNotInD zx zy) σ H Q) : tDNotIn (rdR K G zx) (rdR K G zy) σ H Q := by
  obtain ⟨ft, F, env, st, r, st', I, ev, q⟩ := h
  obtain ⟨a, st1, b, e1, e2, e3⟩ := bin_ev ev
  cases b <;> simp only [dNotInD] at e3 <;> try (cases e3; done)
  rename_i kvs
  cases hk : dKey a with
  | none => rw [hk] at e3; cases e3
  | some k =>
    rw [hk] at e3
    cases e3
    obtain rfl := dKey_ev hk
    refine ⟨ft, F, env, st, _, st1, I, e1, fun v1 H1 F1 s1 I1 r1 => ⟨ft, F1, env, st1, _, st', I1, e2, fun v2 H2 F2 s2 I2 r2 => ?_⟩⟩
    obtain ⟨a, o, rfl, hg, ho⟩ := dlook_of (k := k) r2
    refine ⟨a, o, rfl, by rw [rr_key (s2.rr I1.hi r1)]; exact hg, q _ H2 F2 (s1.trans s2) I2 ?_⟩
    rw [ho]
    exact rep_bl
theorem tB_of {t : TE} {K : PySem.W.Frag} {G : Act} {σ : L2.St} {H : Hp} {Q : Bool → Hp → Prop} (hm : ∀ Q', rdE K G z σ H Q' → t σ H Q') (h : rdT K G z σ H Q) : tB t σ H Q := by
  obtain ⟨ft, F, env, st, b, st', I, ev, q⟩ := h
  refine hm _ ⟨ft, F, env, st, .bool b, st', I, ev, fun v H' F' s I' rp => ?_⟩
  unfold Rep at rp
  exact ⟨b, rp, q H' F' s I'⟩
theorem qe_din (hx : QR C N sc x zx) (hy : QR C N sc y zy) (hm : behindInMarks .In y = false := by first | exact nobehind _ (by decide) (by decide) | rfl) : QE C N sc (.Compare x [.In] [y] pos) (.op2 dInD zx zy) := fun X G g n e =>
  (pe_cmp (pc_din (good_u g) (hx X G g n e) (hy X G g n e)) hm).wk fun σ H Q h => rd_din h
theorem qt_din (hx : QR C N sc x zx) (hy : QR C N sc y zy) (hm : behindInMarks .In y = false := by first | exact nobehind _ (by decide) (by decide) | rfl) : QT C N sc (.Compare x [.In] [y] pos) (.op2 dInD zx zy) := fun X G g n e =>
  (pt_cmp (pc_din (good_u g) (hx X G g n e) (hy X G g n e)) hm).wk fun σ H Q h => tB_of (fun Q' => rd_din) h
theorem qe_dinN (hx : QR C N sc x zx) (hy : QR C N sc y zy) (hm : behindInMarks .NotIn y = false := by first | exact nobehind _ (by decide) (by decide) | rfl) : QE C N sc (.Compare x [.NotIn] [y] pos) (.op2 dNotInD zx zy) := fun X G g n e =>
  (pe_cmp (pc_dnotin (good_u g) (hx X G g n e) (hy X G g n e)) hm).wk fun σ H Q h => rd_dnotin h
theorem qt_dinN (hx : QR C N sc x zx) (hy : QR C N sc y zy) (hm : behindInMarks .NotIn y = false := by first | exact nobehind _ (by decide) (by decide) | rfl) : QT C N sc (.Compare x [.NotIn] [y] pos) (.op2 dNotInD zx zy) := fun X G g n e =>
  (pt_cmp (pc_dnotin (good_u g) (hx X G g n e) (hy X G g n e)) hm).wk fun σ H Q h => tB_of (fun Q' => rd_dnotin) h
/-- {} -/
theorem qf_dnew : QF C N sc (.Dict [] [] pos) (.cst (.dict [])) := fun X G g n e =>
  PE.wk pe_dnewK fun σ H Q ⟨ft, F, env, st, r, st', I, ev, q⟩ => by
    unfold evE at ev
    cases ev
    intro p hp
    have gr : Grow H F (upd H p (.dK [])) F := Grow.own I.hi hp
    exact q p _ F gr.step (I.grow gr) hp (I.hi.fresh hp).2.2 ⟨[], upd_same, by unfold RepD; rfl⟩
/-- d[k] = e -/
theorem qs_setD {nm : Str} {p tp : Pos} (i : Nat) (h : QE C N sc x zx) (hk : QE C N sc y zy) (hN : N[i]? = some nm := by rfl) (hv : Vis sc nm := by first | exact Or.inl rfl | exact Or.inr (Or.inl rfl) | exact Or.inr (Or.inr rfl)) (hd : (nm == ("__debug__" : Str)) = false := by decide)
    (hcd : (nm == ("__classdict__" : Str)) = false := by decide)
    (hs : ∀ env : PySem.Env, env.scope = sc → swapsWith x (some (.Subscript (.Name nm p) y tp)) pos.line env = pure false := by intro env h; cases env; cases h; rfl) : QS C N sc (.Assign [.Subscript (.Name nm p) y tp] x pos) (.seti i dSetD zx zy) := fun X G g n e f =>
  (ps_dput (good_u g) (pe_var (i := i) (by rw [n]; exact hN) (by rw [e]; exact hv) hd hcd) (hk X G g n e) (h X G g n e) (hs _ e)).wk fun Dn σ H ⟨ft, F, env, st, m, o, I, ev, k⟩ => by
    obtain ⟨d, st1, kd, st2, t, r, e1, e4, e2, e3, rfl⟩ := seti_ev ev
    cases t <;> simp only [dSetD] at e3 <;> try (cases e3; done)
    rename_i kvs
    cases hkk : dKey kd with
    | none => rw [hkk] at e3; cases e3
    | some ky =>
      rw [hkk] at e3
      simp only [Option.bind_some] at e3
      split at e3
      · rename_i hlen
        cases e3
        obtain rfl := dKey_ev hkk
        refine ⟨ft, F, env, st, d, st1, I, e1, fun v H1 F1 s1 I1 r1 => ?_⟩
        obtain ⟨p', e5, m1, m2, m3, ys, hy, rl1⟩ := I1.slot i _ e2
        refine ⟨.ref p', e5, ft, F1, env, st1, kD ky, st2, I1, e4, fun kv H2 F2 s2 I2 r2 => ?_⟩
        obtain rfl := rep_key r2
        obtain ⟨p2, e7, n1, n2, n3, zs, hz, rl2⟩ := I2.slot i _ e2
        rw [e5] at e7
        cases e7
        obtain ⟨ss, I3⟩ := mut_ok (t' := .dict (dPut kvs (kD ky) d)) (o := .dK (putK zs ky v)) I2 e2 e5 ⟨_, upd_same, RepD.keep (keepW n1) (fun _ h => h) _ (rl2.put (s2.rep I1.hi r1))⟩
        exact ⟨p', _, rfl, DPut.k hz (by rw [rl2.length, sl_eq]; exact hlen), k ft _ _ F2 (((s1.ss I.hi).trans (s2.ss I1.hi)).trans ss) I3⟩
      · cases e3
/-- d.pop(k), what came is dropped -/
theorem qs_popD {nm : Str} {p apos cpos : Pos} (i : Nat) (h : QE C N sc x z) (hm : ∀ X : Cx, X.env.scope = sc → M1 X (.Name nm p) "pop" apos x cpos) (hN : N[i]? = some nm := by rfl) (hv : Vis sc nm := by first | exact Or.inl rfl | exact Or.inr (Or.inl rfl) | exact Or.inr (Or.inr rfl)) (hd : (nm == ("__debug__" : Str)) = false := by decide)
    (hcd : (nm == ("__classdict__" : Str)) = false := by decide)
    (hsw : ∀ env : PySem.Env, env.scope = sc → swapsWith (.Call (.Attribute (.Name nm p) "pop" apos) [x] [] cpos) none pos.line env = pure false := by intro env h; cases env; cases h; rfl) :
    QS C N sc (.Expr (.Call (.Attribute (.Name nm p) "pop" apos) [x] [] cpos) pos) (.mut i dDelD z) := fun X G g n e f =>
  (ps_expr (pe_dpop1 (pe_var (i := i) (by rw [n]; exact hN) (by rw [e]; exact hv) hd hcd) (h X G g n e) (hm X e)) (hsw _ e)).wk fun Dn σ H ⟨ft, F, env, st, m, o, I, ev, k⟩ => by
    obtain ⟨d, st1, t, r, e1, e2, e3, rfl⟩ := mut_ev ev
    cases t <;> simp only [dDelD] at e3 <;> try (cases e3; done)
    rename_i kvs
    cases hkk : dKey d with
    | none => rw [hkk] at e3; cases e3
    | some ky =>
      rw [hkk] at e3
      simp only [Option.bind_some] at e3
      obtain rfl := dKey_ev hkk
      cases hl : dLook kvs (kD ky) with
      | none => rw [hl] at e3; cases e3
      | some t0 =>
        rw [hl] at e3
        cases e3
        obtain ⟨p', e4, n1, n2, n3, xs, hx, rl⟩ := I.slot i _ e2
        refine ⟨.ref p', e4, p', rfl, .inl ⟨xs, .inl hx⟩, ft, F, env, st, kD ky, st1, I, e1, fun v H1 F1 s1 I1 r1 => ?_⟩
        obtain ⟨p2, e5, m1, m2, m3, ys, hy, rl1⟩ := I1.slot i _ e2
        rw [e4] at e5
        cases e5
        obtain rfl := rep_key r1
        rcases rl1.look (k := ky) with ⟨q1, _⟩ | ⟨t', u, q1, q2, _⟩
        · rw [q1] at hl; cases hl
        · obtain ⟨ss, I2⟩ := mut_ok (t' := .dict (kvs.filter fun p => !PyData.eqv p.1 (kD ky))) (o := .dK (dropK ys ky)) I1 e2 e4 ⟨_, upd_same, RepD.keep (keepW m1) (fun _ h => h) _ rl1.drop⟩
          exact ⟨ys, ky, u, hy, rfl, q2, k ft _ _ F1 ((s1.ss I.hi).trans ss) I2⟩

/-! ### what they need and give -/
section
variable {kvs : List (D × D)} {i : Int} {t : D} {Q : D → Prop}
theorem sm_dget : Sm (dGetD (.dict kvs) (.int i)) Q ↔ Sm (dLook kvs (.int i)) Q := Iff.rfl
theorem sm_din : Sm (dInD (.int i) (.dict kvs)) Q ↔ Q (.bool (dLook kvs (.int i)).isSome) := sm_some
theorem sm_dnotin : Sm (dNotInD (.int i) (.dict kvs)) Q ↔ Q (.bool (!(dLook kvs (.int i)).isSome)) := sm_some
theorem sm_dset : Sm (dSetD (.dict kvs) (.int i) t) Q ↔ kvs.length < 16777216 ∧ Q (.dict (dPut kvs (.int i) t)) := sm_if
theorem sm_ddel : Sm (dDelD (.dict kvs) (.int i)) Q ↔ (dLook kvs (.int i)).isSome = true ∧ Q (.dict (kvs.filter fun p => !PyData.eqv p.1 (.int i))) := by
  show Sm ((dLook kvs (.int i)).map fun _ => _) Q ↔ _
  cases dLook kvs (.int i) with
  | none => simp [sm_map, sm_none]
  | some x => simp [sm_map, sm_some]
end
end Z
namespace ZM
/-! plain facts on whole numbers -/
theorem least {P : Nat → Prop} (h : ∃ n, P n) : ∃ n, P n ∧ ∀ m, m < n → ¬ P m := by
  obtain ⟨n, hn⟩ := h
  induction n using Nat.strongRecOn with
  | ind n ih =>
    by_cases c : ∃ m, m < n ∧ P m
    · obtain ⟨m, hm, pm⟩ := c
      exact ih m hm pm
    · exact ⟨n, hn, fun m hm pm => c ⟨m, hm, pm⟩⟩
/-- the least divisor from d on -/
def lfGo : Nat → Nat → Nat → Nat
  | 0, _, n => n
  | f + 1, d, n => if n % d = 0 then d else lfGo f (d + 1) n
def lf (n : Nat) : Nat := lfGo n 2 n
theorem lfGo_spec : ∀ (f d n : Nat), 2 ≤ d → d ≤ n → n ≤ f + d → (∀ e, 2 ≤ e → e < d → ¬ e ∣ n) → 2 ≤ lfGo f d n ∧ lfGo f d n ∣ n ∧ ∀ e, 2 ≤ e → e < lfGo f d n → ¬ e ∣ n
  | 0, d, n, h2, hd, hf, h => by
    have : d = n := by omega
    subst this
    exact ⟨h2, Nat.dvd_refl _, h⟩
  | f + 1, d, n, h2, hd, hf, h => by
    unfold lfGo
    split
    · rename_i h0
      exact ⟨h2, Nat.dvd_of_mod_eq_zero h0, h⟩
    · rename_i h0
      have hne : d ≠ n := by rintro rfl; exact h0 (Nat.mod_self _)
      refine lfGo_spec f (d + 1) n (by omega) (by omega) (by omega) fun e he1 he2 hdv => ?_
      by_cases hh : e = d
      · subst hh; exact h0 (Nat.mod_eq_zero_of_dvd hdv)
      · exact h e he1 (by omega) hdv
theorem lf_spec {n : Nat} (h : 2 ≤ n) : 2 ≤ lf n ∧ lf n ∣ n ∧ ∀ e, 2 ≤ e → e < lf n → ¬ e ∣ n := lfGo_spec n 2 n (Nat.le_refl _) h (by omega) fun e h1 h2 => by omega
theorem lf_le {n d : Nat} (h : 2 ≤ n) (hd : 2 ≤ d) (h2 : d ∣ n) : lf n ≤ d := by
  apply Nat.le_of_not_lt
  intro hl
  exact (lf_spec h).2.2 d hd hl h2
theorem lf_le_self {n : Nat} (h : 2 ≤ n) : lf n ≤ n := lf_le h h (Nat.dvd_refl _)
theorem lf_eq {n p : Nat} (h : 2 ≤ n) (hp : 2 ≤ p) (hd : p ∣ n) (hl : ∀ e, 2 ≤ e → e < p → ¬ e ∣ n) : lf n = p := by
  have a := lf_le h hp hd
  have b := lf_spec h
  apply Nat.le_antisymm a
  apply Nat.le_of_not_lt
  intro hl'
  exact hl _ b.1 hl' b.2.1
/-- primes -/
def Pr (n : Nat) : Prop := 2 ≤ n ∧ ∀ d, 2 ≤ d → d < n → ¬ d ∣ n
def isP (n : Nat) : Bool := decide (2 ≤ n) && decide (lf n = n)
theorem isP_iff {n : Nat} : isP n = true ↔ Pr n := by
  unfold isP Pr
  simp only [Bool.and_eq_true, decide_eq_true_eq]
  constructor
  · rintro ⟨h, e⟩
    have := lf_spec h
    rw [e] at this
    exact ⟨h, this.2.2⟩
  · rintro ⟨h, e⟩
    exact ⟨h, lf_eq h h (Nat.dvd_refl _) e⟩
theorem lf_pr {n : Nat} (h : 2 ≤ n) : Pr (lf n) := by
  obtain ⟨h2, hd, hl⟩ := lf_spec h
  exact ⟨h2, fun d h1 h3 h4 => hl d h1 h3 (Nat.dvd_trans h4 hd)⟩
theorem Pr.two_le {p : Nat} (h : Pr p) : 2 ≤ p := h.1
theorem Pr.pos {p : Nat} (h : Pr p) : 0 < p := by have := h.1; omega
theorem Pr.dvd_eq {p d : Nat} (h : Pr p) (hd : d ∣ p) (h2 : 2 ≤ d) : d = p := by
  have hle := Nat.le_of_dvd h.pos hd
  by_cases c : d = p
  · exact c
  · exact absurd hd (h.2 d h2 (by omega))
theorem Pr.gcd {p n : Nat} (h : Pr p) (hn : ¬ p ∣ n) : Nat.gcd p n = 1 := by
  have h1 := Nat.gcd_dvd_left p n
  have h2 := Nat.gcd_dvd_right p n
  by_cases c : 2 ≤ Nat.gcd p n
  · have := h.dvd_eq h1 c
    rw [this] at h2
    exact absurd h2 hn
  · have := Nat.gcd_pos_of_pos_left n h.pos
    omega
theorem Pr.dvd_mul {p a b : Nat} (h : Pr p) (hd : p ∣ a * b) : p ∣ a ∨ p ∣ b := by
  by_cases c : p ∣ a
  · exact .inl c
  · exact .inr (Nat.Coprime.dvd_of_dvd_mul_left (h.gcd c) hd)
theorem Pr.dvd_pow {p a k : Nat} (h : Pr p) (hd : p ∣ a ^ k) : p ∣ a := by
  induction k with
  | zero => simp at hd; have := h.1; omega
  | succ k ih =>
    rw [Nat.pow_succ] at hd
    rcases h.dvd_mul hd with h1 | h1
    · exact ih h1
    · exact h1
/-- a number that is not prime has a prime divisor up to its root -/
theorem small_div {n : Nat} (h : 2 ≤ n) (hn : ¬ Pr n) : Pr (lf n) ∧ lf n ∣ n ∧ lf n * lf n ≤ n := by
  obtain ⟨h2, hd, hl⟩ := lf_spec h
  refine ⟨lf_pr h, hd, ?_⟩
  obtain ⟨k, hk⟩ := hd
  have hne : lf n ≠ n := fun e => hn (isP_iff.mp (by unfold isP; simp [h, e]))
  have hk2 : 2 ≤ k := by
    rcases k with _ | _ | k
    · simp at hk; omega
    · simp at hk; exact absurd hk.symm hne
    · omega
  have : lf n ≤ k := lf_le h hk2 ⟨lf n, by rw [Nat.mul_comm]; exact hk⟩
  calc lf n * lf n ≤ lf n * k := Nat.mul_le_mul_left _ this
    _ = n := hk.symm
theorem pr_iff {n : Nat} (h : 2 ≤ n) : Pr n ↔ ∀ p, Pr p → p * p ≤ n → ¬ p ∣ n := by
  constructor
  · intro hp p hq hle hd
    have := hp.dvd_eq hd hq.1
    subst this
    have : p * 1 < p * p := Nat.mul_lt_mul_of_pos_left hq.1 hq.pos
    omega
  · intro hh
    by_cases c : Pr n
    · exact c
    · obtain ⟨a, b, d⟩ := small_div h c
      exact absurd b (hh _ a d)
def primesTo (m : Nat) : List Nat := (List.range (m + 1)).filter isP
theorem mem_primesTo {m p : Nat} : p ∈ primesTo m ↔ Pr p ∧ p ≤ m := by
  unfold primesTo
  rw [List.mem_filter, List.mem_range, isP_iff]
  constructor
  · rintro ⟨a, b⟩; exact ⟨b, by omega⟩
  · rintro ⟨a, b⟩; exact ⟨by omega, a⟩
theorem primesTo_succ {m : Nat} : primesTo (m + 1) = if isP (m + 1) then primesTo m ++ [m + 1] else primesTo m := by
  unfold primesTo
  rw [List.range_succ, List.filter_append]
  cases h : isP (m + 1) <;> simp [List.filter, h]
theorem primesTo_len {m : Nat} : (primesTo m).length ≤ m + 1 := by
  unfold primesTo
  exact Nat.le_trans (List.length_filter_le _ _) (by simp)
theorem primesTo_one : primesTo 1 = [] := rfl
/-- roots -/
def isq : Nat → Nat
  | 0 => 0
  | n + 1 => if (isq n + 1) * (isq n + 1) ≤ n + 1 then isq n + 1 else isq n
theorem isq_spec : ∀ n, isq n * isq n ≤ n ∧ n < (isq n + 1) * (isq n + 1)
  | 0 => by decide
  | n + 1 => by
    have ih := isq_spec n
    unfold isq
    split
    · rename_i h
      refine ⟨h, ?_⟩
      have : (isq n + 1 + 1) * (isq n + 1 + 1) = (isq n + 1) * (isq n + 1) + 2 * (isq n + 1) + 1 := by
        generalize isq n + 1 = r
        rw [Nat.add_mul, Nat.mul_add]; omega
      omega
    · rename_i h
      exact ⟨by omega, by omega⟩
theorem mul_self_lt {a b : Nat} (h : a * a < b * b) : a < b := by
  apply Nat.lt_of_not_le
  intro hl
  have := Nat.mul_le_mul hl hl
  omega
theorem mul_self_le {a b : Nat} (h : a ≤ b) : a * a ≤ b * b := Nat.mul_le_mul h h
theorem isq_eq {n r : Nat} (h1 : r * r ≤ n) (h2 : n < (r + 1) * (r + 1)) : isq n = r := by
  have h := isq_spec n
  have a : isq n < r + 1 := mul_self_lt (by omega)
  have b : r < isq n + 1 := mul_self_lt (by omega)
  omega
theorem isq_sq (r : Nat) : isq (r * r) = r := isq_eq (Nat.le_refl _) (Nat.mul_lt_mul_of_lt_of_le (by omega) (by omega) (by omega))
theorem isq_le {n : Nat} : isq n ≤ n := by
  have := (isq_spec n).1
  have : isq n ≤ isq n * isq n := Nat.le_mul_self _
  omega
/-- how often p divides n, and what is left -/
def vaGo : Nat → Nat → Nat → Nat × Nat
  | 0, _, n => (0, n)
  | f + 1, p, n => if n % p = 0 then ((vaGo f p (n / p)).1 + 1, (vaGo f p (n / p)).2) else (0, n)
theorem vaGo_spec : ∀ (f p n : Nat), 2 ≤ p → 1 ≤ n → n ≤ f → n = p ^ (vaGo f p n).1 * (vaGo f p n).2 ∧ ¬ p ∣ (vaGo f p n).2 ∧ 1 ≤ (vaGo f p n).2
  | 0, p, n, h2, h1, hf => by omega
  | f + 1, p, n, h2, h1, hf => by
    unfold vaGo
    split
    · rename_i h0
      obtain ⟨k, rfl⟩ := Nat.dvd_of_mod_eq_zero h0
      have hk : 1 ≤ k := by
        rcases k with _ | k
        · simp at h1
        · omega
      have hkp : k < p * k := by
        have : 1 * k < p * k := Nat.mul_lt_mul_of_pos_right (by omega) hk
        omega
      have e : p * k / p = k := Nat.mul_div_cancel_left _ (by omega)
      rw [e]
      obtain ⟨i1, i2, i3⟩ := vaGo_spec f p k h2 hk (by omega)
      refine ⟨?_, i2, i3⟩
      show p * k = p ^ ((vaGo f p k).1 + 1) * (vaGo f p k).2
      rw [Nat.pow_succ, Nat.mul_right_comm, ← i1, Nat.mul_comm]
    · rename_i h0
      refine ⟨?_, fun hd => h0 (Nat.mod_eq_zero_of_dvd hd), h1⟩
      show n = p ^ 0 * n
      simp
/-- how often and what is left are told by their product -/
theorem va_unique {p v w m k : Nat} (h2 : 2 ≤ p) (hm : ¬ p ∣ m) (hk : ¬ p ∣ k) (e : p ^ v * m = p ^ w * k) : v = w ∧ m = k := by
  have hp : 0 < p := by omega
  have main : ∀ v w m k, ¬ p ∣ m → ¬ p ∣ k → p ^ v * m = p ^ w * k → v ≤ w → v = w ∧ m = k := by
    intro v w m k hm hk e hl
    obtain ⟨d, rfl⟩ := Nat.exists_eq_add_of_le hl
    rw [Nat.pow_add, Nat.mul_assoc] at e
    have e2 := Nat.eq_of_mul_eq_mul_left (Nat.pow_pos hp) e
    rcases d with _ | d
    · simp at e2; exact ⟨rfl, e2⟩
    · exfalso
      apply hm
      rw [e2, Nat.pow_succ, Nat.mul_right_comm]
      exact ⟨p ^ d * k, by rw [Nat.mul_comm]⟩
  rcases Nat.le_total v w with h | h
  · exact main v w m k hm hk e h
  · obtain ⟨a, b⟩ := main w v k m hk hm e.symm h
    exact ⟨a.symm, b.symm⟩
def va (p n : Nat) : Nat := (vaGo n p n).1
def vr (p n : Nat) : Nat := (vaGo n p n).2
theorem va_spec {p n : Nat} (h2 : 2 ≤ p) (h1 : 1 ≤ n) : n = p ^ va p n * vr p n ∧ ¬ p ∣ vr p n ∧ 1 ≤ vr p n := vaGo_spec n p n h2 h1 (Nat.le_refl _)
theorem va_of {p n v m : Nat} (h2 : 2 ≤ p) (h1 : 1 ≤ n) (e : n = p ^ v * m) (hm : ¬ p ∣ m) : va p n = v ∧ vr p n = m := by
  obtain ⟨a, b, c⟩ := va_spec h2 h1
  exact va_unique h2 b hm (a.symm.trans e)
def bookGo : Nat → Nat → List (Nat × Nat)
  | 0, _ => []
  | f + 1, n => if n ≤ 1 then [] else (lf n, va (lf n) n) :: bookGo f (vr (lf n) n)
def book (n : Nat) : List (Nat × Nat) := bookGo n n
theorem va_pos {p n : Nat} (h2 : 2 ≤ p) (h1 : 1 ≤ n) (hd : p ∣ n) : 1 ≤ va p n := by
  obtain ⟨a, b, c⟩ := va_spec h2 h1
  rcases hv : va p n with _ | v
  · rw [hv] at a
    simp at a
    rw [a] at hd
    exact absurd hd b
  · omega
theorem vr_lt {p n : Nat} (h2 : 2 ≤ p) (h1 : 1 ≤ n) (hd : p ∣ n) : vr p n < n := by
  obtain ⟨a, b, c⟩ := va_spec h2 h1
  have hv := va_pos h2 h1 hd
  have : 2 ≤ p ^ va p n := Nat.le_trans h2 (by
    have := Nat.pow_le_pow_right (n := p) (by omega) hv
    simpa using this)
  have : 2 * vr p n ≤ p ^ va p n * vr p n := Nat.mul_le_mul_right _ this
  omega
theorem bookGo_fuel : ∀ (f g n : Nat), n ≤ f → n ≤ g → bookGo f n = bookGo g n
  | 0, 0, n, _, _ => rfl
  | 0, g + 1, n, h, _ => by
    unfold bookGo
    rw [if_pos (by omega)]
  | f + 1, 0, n, _, h => by
    unfold bookGo
    rw [if_pos (by omega)]
  | f + 1, g + 1, n, h1, h2 => by
    unfold bookGo
    split
    · rfl
    · rename_i h
      have := lf_spec (n := n) (by omega)
      have := vr_lt this.1 (by omega) this.2.1
      rw [bookGo_fuel f g _ (by omega) (by omega)]
theorem book_step {n : Nat} (h : 2 ≤ n) : book n = (lf n, va (lf n) n) :: book (vr (lf n) n) := by
  have hh := lf_spec h
  have := vr_lt hh.1 (by omega) hh.2.1
  unfold book
  cases n with
  | zero => omega
  | succ k =>
    rw [bookGo, if_neg (by omega)]
    rw [bookGo_fuel k (vr (lf (k + 1)) (k + 1)) _ (by omega) (Nat.le_refl _)]
theorem book_one {n : Nat} (h : n ≤ 1) : book n = [] := by
  unfold book
  cases n with
  | zero => rfl
  | succ k => rw [bookGo, if_pos h]
end ZM
namespace ZC
open PySem PySem.Spec PyProof.Rows L2 Z
def z_common  : ZS := (.seq (.whl (.op2 dGt (.rd 1) (.cst (.int 0))) 
  (.par [(0, false), (1, false)] (.acons (.var 1) (.acons (.op2 dMod (.rd 0) (.rd 1)) .anil)))) 
  (.ret (.var 0)))
def z_power_rest  : ZS := (.seq (.par [(3, false), (4, false)] (.acons (.op2 dMod (.cst (.int 1)) (.rd 2)) (.acons (.op2 dMod (.rd 0) (.rd 2)) .anil))) 
  (.seq (.whl (.op2 dGt (.rd 1) (.cst (.int 0))) 
  (.seq (.ife (.op2 dEq (.op2 dMod (.rd 1) (.cst (.int 2))) (.cst (.int 1))) 
  (.asg (.one 3) (.op2 dMod (.op2 dMul (.rd 3) (.rd 4)) (.rd 2))) .skip) 
  (.seq (.asg (.one 4) (.op2 dMod (.op2 dMul (.rd 4) (.rd 4)) (.rd 2))) 
  (.asg (.one 1) (.op2 dDiv (.rd 1) (.cst (.int 2))))))) 
  (.ret (.var 3))))
def z_by_trials  : ZS := (.seq (.ife (.op2 dEq (.op2 dMod (.rd 0) (.cst (.int 2))) (.cst (.int 0))) 
  (.ret (.cst (.int 2))) .skip) 
  (.seq (.asg (.one 1) (.cst (.int 3))) 
  (.seq (.whl (.op2 dLe (.op2 dMul (.rd 1) (.rd 1)) (.rd 0)) 
  (.seq (.ife (.op2 dEq (.op2 dMod (.rd 0) (.rd 1)) (.cst (.int 0))) 
  (.ret (.var 1)) .skip) 
  (.asg (.one 1) (.op2 dAdd (.rd 1) (.cst (.int 2)))))) 
  (.ret (.var 0)))))
def z_root_of  : ZS := (.seq (.par [(1, false), (2, false)] (.acons (.cst (.int 0)) (.acons (.op2 dAdd (.rd 0) (.cst (.int 1))) .anil))) 
  (.seq (.whl (.op2 dGt (.op2 dSub (.rd 2) (.rd 1)) (.cst (.int 1))) 
  (.seq (.asg (.one 3) (.op2 dDiv (.op2 dAdd (.rd 1) (.rd 2)) (.cst (.int 2)))) 
  (.ife (.op2 dLe (.op2 dMul (.rd 3) (.rd 3)) (.rd 0)) 
  (.asg (.one 1) (.var 3)) 
  (.asg (.one 2) (.var 3))))) 
  (.ret (.var 1))))
def z_by_striking  : ZS := (.seq (.asgO 1 (.op2 dRep (.lst (.acons (.cst (.bool true)) .anil)) (.op2 dAdd (.rd 0) (.cst (.int 1))))) 
  (.seq (.asgO 2 (.lst .anil)) 
  (.seq (.forr (.one 3) (.bi dRng2 (.acons (.cst (.int 2)) (.acons (.op2 dAdd (.rd 0) (.cst (.int 1))) .anil))) 
  (.ife (.op1 dTru (.op2 dIx (.rd 1) (.rd 3))) 
  (.seq (.mut 2 dApp (.var 3)) 
  (.forr (.one 4) (.bi dRng3 (.acons (.op2 dMul (.rd 3) (.rd 3)) (.acons (.op2 dAdd (.rd 0) (.cst (.int 1))) (.acons (.rd 3) .anil)))) 
  (.seti 1 dSetL (.cst (.bool false)) (.var 4)))) .skip)) 
  (.seq (.frz 2) (.ret (.var 2))))))
def z_book_by (fs_by_trials : List D → Option D) : ZS := (.seq (.asgO 1 (.lst .anil)) 
  (.seq (.whl (.op2 dGt (.rd 0) (.cst (.int 1))) 
  (.seq (.asg (.one 2) (.call fs_by_trials (.acons (.rd 0) .anil))) 
  (.seq (.asg (.one 3) (.cst (.int 0))) 
  (.seq (.whl (.op2 dEq (.op2 dMod (.rd 0) (.rd 2)) (.cst (.int 0))) 
  (.seq (.asg (.one 0) (.op2 dDiv (.rd 0) (.rd 2))) 
  (.asg (.one 3) (.op2 dAdd (.rd 3) (.cst (.int 1)))))) 
  (.mut 1 dApp (.tup (.acons (.var 2) (.acons (.var 3) .anil)))))))) 
  (.ret (.bi dTuple (.acons (.rd 1) .anil)))))
def z__law_refill  : ZS := (.seq (.asg (.one 2) (.cst (.int 0))) 
  (.seq (.ife (.op1 dTru (.rd 0)) 
  (.asg (.one 2) (.op2 dIx (.rd 0) (.op2 dMod (.rd 1) (.bi dLen (.acons (.rd 0) .anil))))) .skip) 
  (.seq (.ife (.op2 dLt (.rd 2) (.cst (.int 0))) 
  (.asg (.one 2) (.op2 dSub (.cst (.int 1)) (.op2 dMul (.cst (.int 2)) (.rd 2)))) .skip) 
  (.seq (.ife (.band (.op2 dGe (.rd 2) (.op2 dPow (.cst (.int 10)) (.cst (.int 18)))) (.op2 dLt (.rd 1) (.bi dLen (.acons (.rd 0) .anil)))) 
  (.ret (.var 2)) .skip) 
  (.ret (.op2 dMod (.bi dInt (.acons (.op2 dAdd (.op2 dMul (.bi dInt (.acons (.op2 dAdd (.op2 dAdd (.op2 dMul (.rd 2) (.cst (.int 48271))) (.op2 dMul (.rd 1) (.cst (.int 69621)))) (.cst (.int 12345))) .anil)) (.cst (.int 40692))) (.cst (.int 7))) .anil)) (.cst (.int 2147483399))))))))
def z__law_draw (fs__law_refill : List D → Option D) : ZS := (.seq (.ife (.op2 dEq (.sget 0 1) (.cst (.int 0))) 
  (.seq (.sset 0 1 (.call fs__law_refill (.acons (.rd 1) (.acons (.sget 0 0) .anil)))) 
  (.sset 0 0 (.op2 dAdd (.sget 0 0) (.cst (.int 1))))) .skip) 
  (.seq (.asg (.one 3) (.op2 dMod (.bi dInt (.acons (.sget 0 1) .anil)) (.rd 2))) 
  (.seq (.sset 0 1 (.op2 dDiv (.sget 0 1) (.rd 2))) 
  (.ret (.var 3)))))
def z__law_exact (fs__law_exact : List D → Option D) : ZS := (.seq (.ife (.op1 dTru (.op1 (dIsi2 "list" "tuple") (.rd 0))) 
  (.seq (.ife (.bor (.op2 dNe (.op1 (dIsi "list") (.rd 0)) (.op1 (dIsi "list") (.rd 1))) (.op2 dNe (.op1 (dIsi "tuple") (.rd 0)) (.op1 (dIsi "tuple") (.rd 1)))) 
  (.ret (.cst (.bool false))) .skip) 
  (.ret (.band (.op2 dEq (.bi dLen (.acons (.rd 0) .anil)) (.bi dLen (.acons (.rd 1) .anil))) (.bi dAllB (.acons (.comp [3] (.one 3) (.bi dRng1 (.acons (.bi dLen (.acons (.rd 0) .anil)) .anil)) (.cst (.bool true)) (.call fs__law_exact (.acons (.op2 dIx (.rd 0) (.rd 3)) (.acons (.op2 dIx (.rd 1) (.rd 3)) .anil)))) .anil))))) .skip) 
  (.seq (.ife (.bor (.op2 dIs (.rd 0) (.cst .none)) (.op2 dIs (.rd 1) (.cst .none))) 
  (.ret (.band (.op2 dIs (.rd 0) (.cst .none)) (.op2 dIs (.rd 1) (.cst .none)))) .skip) 
  (.seq (.asg (.one 2) (.band (.op2 dEq (.op1 (dIsi "str") (.rd 0)) (.op1 (dIsi "str") (.rd 1))) (.op2 dEq (.op1 (dIsi "bool") (.rd 0)) (.op1 (dIsi "bool") (.rd 1))))) 
  (.ret (.band (.var 2) (.band (.op2 dEq (.op1 (dIsi "int") (.rd 0)) (.op1 (dIsi "int") (.rd 1))) (.op2 dEq (.rd 0) (.rd 1))))))))
def z__law_primes  : ZS := (.seq (.asgO 1 (.lst .anil)) 
  (.seq (.forr (.one 2) (.bi dRng2 (.acons (.cst (.int 2)) (.acons (.op2 dAdd (.rd 0) (.cst (.int 1))) .anil))) 
  (.ife (.op2 dEq (.comp [3] (.one 3) (.op1 dSeq (.rd 1)) (.band (.op2 dLe (.op2 dMul (.rd 3) (.rd 3)) (.rd 2)) (.op2 dEq (.op2 dMul (.op2 dDiv (.rd 2) (.rd 3)) (.rd 3)) (.rd 2))) (.var 3)) (.lst .anil)) 
  (.mut 1 dApp (.var 2)) .skip)) 
  (.seq (.frz 1) (.ret (.var 1)))))
def z__law_divisors  : ZS := (.ret (.comp [1] (.one 1) (.bi dRng2 (.acons (.cst (.int 1)) (.acons (.op2 dAdd (.rd 0) (.cst (.int 1))) .anil))) (.op2 dEq (.op2 dMul (.op2 dDiv (.rd 0) (.rd 1)) (.rd 1)) (.rd 0)) (.var 1)))
def z__law_book  : ZS := (.seq (.par [(1, false), (2, false)] (.acons (.lst .anil) (.acons (.cst (.int 2)) .anil))) 
  (.seq (.whl (.op2 dGt (.rd 0) (.cst (.int 1))) 
  (.seq (.asg (.one 2) (.ife (.op2 dGt (.op2 dMul (.rd 2) (.rd 2)) (.rd 0)) (.var 0) (.var 2))) 
  (.seq (.asg (.one 3) (.cst (.int 0))) 
  (.seq (.whl (.op2 dEq (.op2 dMul (.op2 dDiv (.rd 0) (.rd 2)) (.rd 2)) (.rd 0)) 
  (.par [(0, false), (3, false)] (.acons (.op2 dDiv (.rd 0) (.rd 2)) (.acons (.op2 dAdd (.rd 3) (.cst (.int 1))) .anil)))) 
  (.seq (.asg (.one 1) (.ife (.op2 dGt (.rd 3) (.cst (.int 0))) (.op2 dCat (.rd 1) (.lst (.acons (.tup (.acons (.var 2) (.acons (.var 3) .anil))) .anil))) (.var 1))) 
  (.asg (.one 2) (.op2 dAdd (.rd 2) (.cst (.int 1))))))))) 
  (.ret (.bi dTuple (.acons (.rd 1) .anil)))))
def z__law_common  : ZS := (.seq (.whl (.op2 dGt (.rd 1) (.cst (.int 0))) 
  (.seq (.asg (.one 2) (.op2 dMod (.bi dInt (.acons (.rd 0) .anil)) (.rd 1))) 
  (.seq (.asg (.one 0) (.var 1)) 
  (.asg (.one 1) (.var 2))))) 
  (.ret (.var 0)))
end ZC
namespace Z
open PySem PySem.Spec PyProof.Rows L2
def intsD (ns : List Int) : List D := ns.map PyData.int
def natsD (ns : List Nat) : List D := ns.map fun n => PyData.int (n : Nat)
theorem intsD_inj {a b : List Int} (h : intsD a = intsD b) : a = b := by
  unfold intsD at h
  induction a generalizing b with
  | nil => cases b with
    | nil => rfl
    | cons y ys => simp at h
  | cons x xs ih => cases b with
    | nil => simp at h
    | cons y ys =>
      simp only [List.map_cons, List.cons.injEq, PyData.int.injEq] at h
      rw [h.1, ih h.2]
end Z
namespace ZC
open PySem PySem.Spec PyProof.Rows L2 Z

/-! ### the common divisor -/
theorem gcd_step {x y : Int} (hx : 0 ≤ x) (h : 0 < y) : Int.gcd y (x % y) = Int.gcd x y := by
  obtain ⟨m, rfl⟩ := Int.eq_ofNat_of_zero_le hx
  obtain ⟨n, rfl⟩ := Int.eq_ofNat_of_zero_le (Int.le_of_lt h)
  rw [← Int.natCast_emod, Int.gcd_natCast_natCast, Int.gcd_natCast_natCast, Nat.gcd_comm m n, Nat.gcd_comm n, ← Nat.gcd_rec]
theorem w_common {a b : Int} (ha : 0 ≤ a) (hb : 0 ≤ b) : W z_common [.sh (.int a), .sh (.int b)] none (fun o => o = .ret (.int (Int.gcd a b)) none) := by
  unfold z_common
  rw [w_seq]
  refine W.whl (fun m env st => ∃ x y : Int, env = [.sh (.int x), .sh (.int y)] ∧ st = none ∧ 0 ≤ x ∧ 0 ≤ y ∧ Int.gcd x y = Int.gcd a b ∧ m = y.toNat) b.toNat ⟨a, b, rfl, rfl, ha, hb, rfl, rfl⟩ ?_
  rintro m env st ⟨x, y, rfl, rfl, hx, hy, hg, rfl⟩
  simp only [e_var, e_rd, e_sr, e_cst, e_op1, e_op2, e_op3, e_chain, e_band, e_bor, e_ife, e_anil, e_acons, e_lst, e_tup, e_bi, e_call, e_calls, e_sget, ls_l, gV_sh, gR_sh, gR_br, gR_ow, gS_sh, gS_br, gO_ow, gF_ow, gF_sh, sm_some, w_asg1, w_asg, w_asgO, w_par, w_ret, w_drop, w_aug, w_mut, w_seti, w_augi, w_pop, w_frz, w_sset, w_ife, w_skip, w_brk, w_cont, w_seq, kq_ret, kq_bk, kq_ct, kl_bk, kl_ret, br_b, decide_eq_true_eq, decide_eq_false_iff_not, Bool.not_eq_true', Bool.not_eq_false', reduceCtorEq, true_implies, false_implies, forall_const, not_true_eq_false, not_false_eq_true, and_true, true_and, implies_true, sm_add, sm_addI, sm_addL, sm_addT, sm_cat, sm_sub, sm_mul, sm_div, sm_mod, sm_pow, sm_neg, sm_lt, sm_le, sm_gt, sm_ge, sm_eqI, sm_neI, sm_eqB, sm_neB, sm_isN, sm_isNotN, sm_truI, sm_truB, sm_truN, sm_truL, sm_truT, sm_not, sm_ixL, sm_ixT, sm_at0, sm_at1, sm_at2, sm_lenL, sm_lenT, sm_abs, sm_int, sm_intB, sm_max2, sm_min2, sm_listL, sm_listT, sm_tupL, sm_tupT, sm_seqL, sm_seqT, sm_lsL, sm_rng1, sm_rng2, sm_rng3, sm_app, sm_rep1, sm_set1, sm_setN, sm_setC, sm_mixN, sm_mixC, sm_isi, sm_isi2, sm_item0, sm_item1, sm_iset0, sm_iset1, wipe_n, wipe_c, List.set_cons_zero, List.set_cons_succ, List.getElem?_cons_zero, List.getElem?_cons_succ, List.length_cons, List.length_nil, Nat.zero_le, Bool.false_eq_true, if_true, if_false, Bool.not_true, Bool.not_false, Bool.not_not]
  constructor
  · intro h0
    refine ⟨h0, (x % y).toNat, ?_, y, x % y, rfl, rfl, hy, Int.emod_nonneg _ (by omega), (gcd_step hx h0).trans hg, rfl⟩
    have := Int.emod_lt_of_pos x h0; have := Int.emod_nonneg x (show y ≠ 0 by omega); omega
  · intro h0
    simp only [e_var, e_rd, e_sr, e_cst, e_op1, e_op2, e_op3, e_chain, e_band, e_bor, e_ife, e_anil, e_acons, e_lst, e_tup, e_bi, e_call, e_calls, e_sget, ls_l, gV_sh, gR_sh, gR_br, gR_ow, gS_sh, gS_br, gO_ow, gF_ow, gF_sh, sm_some, w_asg1, w_asg, w_asgO, w_par, w_ret, w_drop, w_aug, w_mut, w_seti, w_augi, w_pop, w_frz, w_sset, w_ife, w_skip, w_brk, w_cont, w_seq, kq_ret, kq_bk, kq_ct, kl_bk, kl_ret, br_b, decide_eq_true_eq, decide_eq_false_iff_not, Bool.not_eq_true', Bool.not_eq_false', reduceCtorEq, true_implies, false_implies, forall_const, not_true_eq_false, not_false_eq_true, and_true, true_and, implies_true, sm_add, sm_addI, sm_addL, sm_addT, sm_cat, sm_sub, sm_mul, sm_div, sm_mod, sm_pow, sm_neg, sm_lt, sm_le, sm_gt, sm_ge, sm_eqI, sm_neI, sm_eqB, sm_neB, sm_isN, sm_isNotN, sm_truI, sm_truB, sm_truN, sm_truL, sm_truT, sm_not, sm_ixL, sm_ixT, sm_at0, sm_at1, sm_at2, sm_lenL, sm_lenT, sm_abs, sm_int, sm_intB, sm_max2, sm_min2, sm_listL, sm_listT, sm_tupL, sm_tupT, sm_seqL, sm_seqT, sm_lsL, sm_rng1, sm_rng2, sm_rng3, sm_app, sm_rep1, sm_set1, sm_setN, sm_setC, sm_mixN, sm_mixC, sm_isi, sm_isi2, sm_item0, sm_item1, sm_iset0, sm_iset1, wipe_n, wipe_c, List.set_cons_zero, List.set_cons_succ, List.getElem?_cons_zero, List.getElem?_cons_succ, List.length_cons, List.length_nil, Nat.zero_le, Bool.false_eq_true, if_true, if_false, Bool.not_true, Bool.not_false, Bool.not_not, kq_nx]
    have : y = 0 := by omega
    subst this
    rw [← hg]
    simp
    omega
noncomputable def fs_common : List D → Option D := FV 2 2 z_common
theorem sm_common {a b : Int} {Q : D → Prop} (ha : 0 ≤ a) (hb : 0 ≤ b) (q : Q (.int (Int.gcd a b))) : Sm (fs_common [.int a, .int b]) Q :=
  FV.sm1 rfl (w_common ha hb) q
theorem w__law_common {a b : Int} (ha : 0 ≤ a) (hb : 0 ≤ b) {l : Sl} : W z__law_common [.sh (.int a), .sh (.int b), l] none (fun o => o = .ret (.int (Int.gcd a b)) none) := by
  unfold z__law_common
  rw [w_seq]
  refine W.whl (fun m env st => ∃ (x y : Int) (l : Sl), env = [.sh (.int x), .sh (.int y), l] ∧ st = none ∧ 0 ≤ x ∧ 0 ≤ y ∧ Int.gcd x y = Int.gcd a b ∧ m = y.toNat) b.toNat ⟨a, b, l, rfl, rfl, ha, hb, rfl, rfl⟩ ?_
  rintro m env st ⟨x, y, l, rfl, rfl, hx, hy, hg, rfl⟩
  simp only [e_var, e_rd, e_sr, e_cst, e_op1, e_op2, e_op3, e_chain, e_band, e_bor, e_ife, e_anil, e_acons, e_lst, e_tup, e_bi, e_call, e_calls, e_sget, ls_l, gV_sh, gR_sh, gR_br, gR_ow, gS_sh, gS_br, gO_ow, gF_ow, gF_sh, sm_some, w_asg1, w_asg, w_asgO, w_par, w_ret, w_drop, w_aug, w_mut, w_seti, w_augi, w_pop, w_frz, w_sset, w_ife, w_skip, w_brk, w_cont, w_seq, kq_ret, kq_bk, kq_ct, kl_bk, kl_ret, br_b, decide_eq_true_eq, decide_eq_false_iff_not, Bool.not_eq_true', Bool.not_eq_false', reduceCtorEq, true_implies, false_implies, forall_const, not_true_eq_false, not_false_eq_true, and_true, true_and, implies_true, sm_add, sm_addI, sm_addL, sm_addT, sm_cat, sm_sub, sm_mul, sm_div, sm_mod, sm_pow, sm_neg, sm_lt, sm_le, sm_gt, sm_ge, sm_eqI, sm_neI, sm_eqB, sm_neB, sm_isN, sm_isNotN, sm_truI, sm_truB, sm_truN, sm_truL, sm_truT, sm_not, sm_ixL, sm_ixT, sm_at0, sm_at1, sm_at2, sm_lenL, sm_lenT, sm_abs, sm_int, sm_intB, sm_max2, sm_min2, sm_listL, sm_listT, sm_tupL, sm_tupT, sm_seqL, sm_seqT, sm_lsL, sm_rng1, sm_rng2, sm_rng3, sm_app, sm_rep1, sm_set1, sm_setN, sm_setC, sm_mixN, sm_mixC, sm_isi, sm_isi2, sm_item0, sm_item1, sm_iset0, sm_iset1, wipe_n, wipe_c, List.set_cons_zero, List.set_cons_succ, List.getElem?_cons_zero, List.getElem?_cons_succ, List.length_cons, List.length_nil, Nat.zero_le, Bool.false_eq_true, if_true, if_false, Bool.not_true, Bool.not_false, Bool.not_not, kq_nx]
  constructor
  · intro h0
    refine ⟨h0, (x % y).toNat, ?_, y, x % y, _, rfl, rfl, hy, Int.emod_nonneg _ (by omega), (gcd_step hx h0).trans hg, rfl⟩
    have := Int.emod_lt_of_pos x h0; have := Int.emod_nonneg x (show y ≠ 0 by omega); omega
  · intro h0
    have : y = 0 := by omega
    subst this
    rw [← hg]
    simp
    omega
noncomputable def fs__law_common : List D → Option D := FV 2 3 z__law_common
theorem sm__law_common {a b : Int} {Q : D → Prop} (ha : 0 ≤ a) (hb : 0 ≤ b) (q : Q (.int (Int.gcd a b))) : Sm (fs__law_common [.int a, .int b]) Q := FV.sm1 rfl (w__law_common ha hb) q

/-! ### powers by remainders -/
theorem pow_emod (a c : Int) (k : Nat) : (a % c) ^ k % c = a ^ k % c := by
  induction k with
  | zero => rw [Int.pow_zero, Int.pow_zero]
  | succ k ih => rw [Int.pow_succ, Int.pow_succ, Int.mul_emod, ih, Int.emod_emod_of_dvd _ (Int.dvd_refl c), ← Int.mul_emod]
theorem pow_step (t y c : Int) (n : Nat) : t * y ^ n % c = (t * y ^ (n % 2) % c) * (y * y % c) ^ (n / 2) % c := by
  have h : y ^ n = y ^ (n % 2) * (y * y) ^ (n / 2) := by
    rw [show y * y = y ^ 2 from by rw [Int.pow_succ, Int.pow_succ, Int.pow_zero, Int.one_mul], ← Int.pow_mul, ← Int.pow_add]
    congr 1; omega
  have e : ∀ u v w : Int, v % c = w % c → u * v % c = (u % c) * w % c := fun u v w h => by
    rw [Int.mul_emod, h, Int.mul_emod (u % c) w, Int.emod_emod_of_dvd _ (Int.dvd_refl c)]
  rw [h, ← Int.mul_assoc]
  exact e _ _ _ (pow_emod (y * y) c _).symm
theorem w_power_rest {a b c : Int} (hc : 0 < c) (hb : 0 ≤ b) (h62 : c < 4611686018427387904) : W z_power_rest [.sh (.int a), .sh (.int b), .sh (.int c), .no, .no] none (fun o => o = .ret (.int (a ^ b.toNat % c)) none) := by
  unfold z_power_rest
  simp only [e_var, e_rd, e_sr, e_cst, e_op1, e_op2, e_op3, e_chain, e_band, e_bor, e_ife, e_anil, e_acons, e_lst, e_tup, e_bi, e_call, e_calls, e_sget, ls_l, gV_sh, gR_sh, gR_br, gR_ow, gS_sh, gS_br, gO_ow, gF_ow, gF_sh, sm_some, w_asg1, w_asg, w_asgO, w_par, w_ret, w_drop, w_aug, w_mut, w_seti, w_augi, w_pop, w_frz, w_sset, w_ife, w_skip, w_brk, w_cont, w_seq, kq_ret, kq_bk, kq_ct, kl_bk, kl_ret, br_b, decide_eq_true_eq, decide_eq_false_iff_not, Bool.not_eq_true', Bool.not_eq_false', reduceCtorEq, true_implies, false_implies, forall_const, not_true_eq_false, not_false_eq_true, and_true, true_and, implies_true, sm_add, sm_addI, sm_addL, sm_addT, sm_cat, sm_sub, sm_mul, sm_div, sm_mod, sm_pow, sm_neg, sm_lt, sm_le, sm_gt, sm_ge, sm_eqI, sm_neI, sm_eqB, sm_neB, sm_isN, sm_isNotN, sm_truI, sm_truB, sm_truN, sm_truL, sm_truT, sm_not, sm_ixL, sm_ixT, sm_at0, sm_at1, sm_at2, sm_lenL, sm_lenT, sm_abs, sm_int, sm_intB, sm_max2, sm_min2, sm_listL, sm_listT, sm_tupL, sm_tupT, sm_seqL, sm_seqT, sm_lsL, sm_rng1, sm_rng2, sm_rng3, sm_app, sm_rep1, sm_set1, sm_setN, sm_setC, sm_mixN, sm_mixC, sm_isi, sm_isi2, sm_item0, sm_item1, sm_iset0, sm_iset1, wipe_n, wipe_c, List.set_cons_zero, List.set_cons_succ, List.getElem?_cons_zero, List.getElem?_cons_succ, List.length_cons, List.length_nil, Nat.zero_le, Bool.false_eq_true, if_true, if_false, Bool.not_true, Bool.not_false, Bool.not_not, kq_nx]
  refine ⟨hc, hc, ?_⟩
  refine W.whl (fun m env st => ∃ x t y: Int, env = [.sh (.int a), .sh (.int x), .sh (.int c), .sh (.int t), .sh (.int y)] ∧ st = none ∧ 0 ≤ x ∧ 0 ≤ t ∧ t < c ∧ 0 ≤ y ∧ y < c ∧ t * y ^ x.toNat % c = a ^ b.toNat % c ∧ m = x.toNat) b.toNat ⟨b, 1 % c, a % c, rfl, rfl, hb, Int.emod_nonneg _ (by omega), Int.emod_lt_of_pos _ hc, Int.emod_nonneg _ (by omega), Int.emod_lt_of_pos _ hc, ?_, rfl⟩ ?_
  · rw [Int.mul_emod, Int.emod_emod_of_dvd _ (Int.dvd_refl c), pow_emod, ← Int.mul_emod, Int.one_mul]
  · rintro m env st ⟨x, t, y, rfl, rfl, hx, ht, ht', hy, hy', hg, rfl⟩
    simp only [e_var, e_rd, e_sr, e_cst, e_op1, e_op2, e_op3, e_chain, e_band, e_bor, e_ife, e_anil, e_acons, e_lst, e_tup, e_bi, e_call, e_calls, e_sget, ls_l, gV_sh, gR_sh, gR_br, gR_ow, gS_sh, gS_br, gO_ow, gF_ow, gF_sh, sm_some, w_asg1, w_asg, w_asgO, w_par, w_ret, w_drop, w_aug, w_mut, w_seti, w_augi, w_pop, w_frz, w_sset, w_ife, w_skip, w_brk, w_cont, w_seq, kq_ret, kq_bk, kq_ct, kl_bk, kl_ret, br_b, decide_eq_true_eq, decide_eq_false_iff_not, Bool.not_eq_true', Bool.not_eq_false', reduceCtorEq, true_implies, false_implies, forall_const, not_true_eq_false, not_false_eq_true, and_true, true_and, implies_true, sm_add, sm_addI, sm_addL, sm_addT, sm_cat, sm_sub, sm_mul, sm_div, sm_mod, sm_pow, sm_neg, sm_lt, sm_le, sm_gt, sm_ge, sm_eqI, sm_neI, sm_eqB, sm_neB, sm_isN, sm_isNotN, sm_truI, sm_truB, sm_truN, sm_truL, sm_truT, sm_not, sm_ixL, sm_ixT, sm_at0, sm_at1, sm_at2, sm_lenL, sm_lenT, sm_abs, sm_int, sm_intB, sm_max2, sm_min2, sm_listL, sm_listT, sm_tupL, sm_tupT, sm_seqL, sm_seqT, sm_lsL, sm_rng1, sm_rng2, sm_rng3, sm_app, sm_rep1, sm_set1, sm_setN, sm_setC, sm_mixN, sm_mixC, sm_isi, sm_isi2, sm_item0, sm_item1, sm_iset0, sm_iset1, wipe_n, wipe_c, List.set_cons_zero, List.set_cons_succ, List.getElem?_cons_zero, List.getElem?_cons_succ, List.length_cons, List.length_nil, Nat.zero_le, Bool.false_eq_true, if_true, if_false, Bool.not_true, Bool.not_false, Bool.not_not, kq_nx]
    constructor
    · intro h0
      refine ⟨by decide, fun h1 => ⟨mul_sm, hc, mul_sm, hc, div_sm, ?_⟩, fun h1 => ⟨mul_sm, hc, div_sm, ?_⟩⟩
      · refine ⟨_, by omega, x / 2, _, _, rfl, rfl, by omega, Int.emod_nonneg _ (by omega), Int.emod_lt_of_pos _ hc, Int.emod_nonneg _ (by omega), Int.emod_lt_of_pos _ hc, ?_, rfl⟩
        rw [← hg, pow_step t y c x.toNat]
        rw [show x.toNat % 2 = 1 by omega, show x.toNat / 2 = (x / 2).toNat by omega, Int.pow_one]
      · refine ⟨_, by omega, x / 2, _, _, rfl, rfl, by omega, ht, ht', Int.emod_nonneg _ (by omega), Int.emod_lt_of_pos _ hc, ?_, rfl⟩
        rw [← hg, pow_step t y c x.toNat]
        rw [show x.toNat % 2 = 0 by omega, show x.toNat / 2 = (x / 2).toNat by omega, Int.pow_zero, Int.mul_one, Int.emod_eq_of_lt ht ht']
    · intro h0
      have : x = 0 := by omega
      subst this
      rw [← hg]
      simp
      rw [Int.emod_eq_of_lt ht ht']
noncomputable def fs_power_rest : List D → Option D := FV 3 5 z_power_rest
theorem sm_power_rest {a b c : Int} {Q : D → Prop} (hb : 0 ≤ b) (hc : 0 < c) (h62 : c < 4611686018427387904) (q : Q (.int (a ^ b.toNat % c))) : Sm (fs_power_rest [.int a, .int b, .int c]) Q :=
  FV.sm1 rfl (w_power_rest hc hb h62) q
end ZC
namespace Z
open PySem PySem.Spec PyProof.Rows L2
/-! ### shapes -/
def Shp (k : Nat) (d : D) : Prop := d.canLay0 = true ∧ d.depth ≤ k
theorem Shp.mono {k m : Nat} {d : D} (h : Shp k d) (l : k ≤ m) : Shp m d := ⟨h.1, Nat.le_trans h.2 l⟩
theorem Shp.int {k : Nat} {i : Int} : Shp k (.int i) := ⟨rfl, Nat.zero_le _⟩
theorem Shp.bool {k : Nat} {i : Bool} : Shp k (.bool i) := ⟨rfl, Nat.zero_le _⟩
theorem Shp.none {k : Nat} : Shp k .none := ⟨rfl, Nat.zero_le _⟩
theorem shp_all {k : Nat} : ∀ {xs : List D}, (∀ x ∈ xs, Shp k x) → PyData.canLayAll0 xs = true ∧ PyData.depthAll xs ≤ k
  | [], _ => ⟨rfl, Nat.zero_le _⟩
  | x :: xs, h => by
    obtain ⟨a, b⟩ := shp_all (xs := xs) fun y hy => h y (.tail _ hy)
    obtain ⟨c, d⟩ := h x (.head _)
    refine ⟨?_, ?_⟩
    · show (x.canLay0 && PyData.canLayAll0 xs) = true
      rw [a, c]; rfl
    · show max x.depth (PyData.depthAll xs) ≤ k
      omega
theorem Shp.list {k : Nat} {xs : List D} (h : ∀ x ∈ xs, Shp k x) : Shp (k + 1) (.list xs) := by
  obtain ⟨a, b⟩ := shp_all h
  exact ⟨a, Nat.succ_le_succ b⟩
theorem Shp.tuple {k : Nat} {xs : List D} (h : ∀ x ∈ xs, Shp k x) : Shp (k + 1) (.tuple xs) := by
  obtain ⟨a, b⟩ := shp_all h
  exact ⟨a, Nat.succ_le_succ b⟩
theorem Shp.ok {k : Nat} {d : D} (h : Shp k d) (l : k ≤ 64 := by decide) : SeqAt.shaped d = true := by
  unfold SeqAt.shaped
  rw [h.1]
  have := h.2
  simp
  omega
theorem Shp.ints {ns : List Int} : Shp 1 (.list (intsD ns)) := Shp.list fun x hx => by
  unfold intsD at hx
  obtain ⟨i, _, rfl⟩ := List.mem_map.mp hx
  exact Shp.int
theorem Shp.nats {ns : List Nat} : Shp 1 (.list (natsD ns)) := Shp.list fun x hx => by
  unfold natsD at hx
  obtain ⟨i, _, rfl⟩ := List.mem_map.mp hx
  exact Shp.int
theorem sm_eqNil {xs : List D} {Q : D → Prop} (h : Shp 63 (.list xs)) (q : Q (.bool xs.isEmpty)) : Sm (dEq (.list xs) (.list [])) Q := by
  unfold dEq
  rw [if_pos (by rw [h.ok]; rfl), sm_some]
  cases xs with
  | nil => exact q
  | cons x xs => exact q
theorem sm_neNil {xs : List D} {Q : D → Prop} (h : Shp 63 (.list xs)) (q : Q (.bool (!xs.isEmpty))) : Sm (dNe (.list xs) (.list [])) Q := by
  unfold dNe
  rw [if_pos (by rw [h.ok]; rfl), sm_some]
  cases xs with
  | nil => exact q
  | cons x xs => exact q
/-! ### lists of numbers -/
theorem rng_nat (lo n : Nat) : rngD (lo : Int) n = natsD (List.range' lo n) := by
  unfold rngD natsD
  rw [List.range'_eq_map_range, List.map_map]
  apply List.map_congr_left
  intro k _
  simp
theorem natsD_filter (p : D → Bool) (l : List Nat) : (natsD l).filter p = natsD (l.filter fun n => p (.int (n : Nat))) := by
  unfold natsD
  rw [List.filter_map]
  rfl
theorem natsD_len (l : List Nat) : (natsD l).length = l.length := by unfold natsD; simp
theorem natsD_id (l : List Nat) : (natsD l).map (fun d => d) = natsD l := List.map_id' _
theorem natsD_app (l m : List Nat) : natsD l ++ natsD m = natsD (l ++ m) := by unfold natsD; simp
theorem natsD_get {l : List Nat} {i n : Nat} (h : l[i]? = some n) : (natsD l)[i]? = some (.int (n : Nat)) := by unfold natsD; rw [List.getElem?_map, h]; rfl
theorem md_iff {n d : Nat} : ((n : Int) % (d : Int) = 0) ↔ d ∣ n := ⟨fun h => Int.natCast_dvd_natCast.mp (Int.dvd_of_emod_eq_zero h), fun h => Int.emod_eq_zero_of_dvd (Int.natCast_dvd_natCast.mpr h)⟩
theorem dm_iff {n d : Nat} : ((n : Int) / (d : Int) * (d : Int) = (n : Int)) ↔ d ∣ n := by
  constructor
  · intro h
    rw [← Int.natCast_ediv, ← Int.natCast_mul, Int.natCast_inj] at h
    exact ⟨n / d, by rw [Nat.mul_comm]; exact h.symm⟩
  · intro h
    rw [← Int.natCast_ediv, ← Int.natCast_mul, Int.natCast_inj]
    exact Nat.div_mul_cancel h
end Z
namespace ZC
open PySem PySem.Spec PyProof.Rows L2 Z ZM

/-! ### the least divisor by trials -/
theorem w_by_trials {n : Nat} (h2 : 2 ≤ n) (hn : n < 2305843009213693952) : W z_by_trials [.sh (.int n), .no] none (fun o => o = .ret (.int (lf n : Nat)) none) := by
  unfold z_by_trials
  simp only [e_var, e_rd, e_sr, e_cst, e_op1, e_op2, e_op3, e_chain, e_band, e_bor, e_ife, e_anil, e_acons, e_lst, e_tup, e_bi, e_call, e_calls, e_sget, ls_l, gV_sh, gR_sh, gR_br, gR_ow, gS_sh, gS_br, gO_ow, gF_ow, gF_sh, sm_some, w_asg1, w_asg, w_asgO, w_par, w_ret, w_drop, w_aug, w_mut, w_seti, w_augi, w_pop, w_frz, w_sset, w_ife, w_skip, w_brk, w_cont, w_seq, kq_ret, kq_bk, kq_ct, kl_bk, kl_ret, br_b, decide_eq_true_eq, decide_eq_false_iff_not, Bool.not_eq_true', Bool.not_eq_false', reduceCtorEq, true_implies, false_implies, forall_const, not_true_eq_false, not_false_eq_true, and_true, true_and, implies_true, sm_add, sm_addI, sm_addL, sm_addT, sm_cat, sm_sub, sm_mul, sm_div, sm_mod, sm_pow, sm_neg, sm_lt, sm_le, sm_gt, sm_ge, sm_eqI, sm_neI, sm_eqB, sm_neB, sm_isN, sm_isNotN, sm_truI, sm_truB, sm_truN, sm_truL, sm_truT, sm_not, sm_ixL, sm_ixT, sm_at0, sm_at1, sm_at2, sm_lenL, sm_lenT, sm_abs, sm_int, sm_intB, sm_max2, sm_min2, sm_listL, sm_listT, sm_tupL, sm_tupT, sm_seqL, sm_seqT, sm_lsL, sm_rng1, sm_rng2, sm_rng3, sm_app, sm_rep1, sm_set1, sm_setN, sm_setC, sm_mixN, sm_mixC, sm_isi, sm_isi2, sm_item0, sm_item1, sm_iset0, sm_iset1, wipe_n, wipe_c, List.set_cons_zero, List.set_cons_succ, List.getElem?_cons_zero, List.getElem?_cons_succ, List.length_cons, List.length_nil, Nat.zero_le, Bool.false_eq_true, if_true, if_false, Bool.not_true, Bool.not_false, Bool.not_not, kq_nx]
  refine ⟨by decide, fun h0 => ?_, fun h0 => ?_⟩
  · have : lf n = 2 := lf_eq h2 (Nat.le_refl _) (by omega) fun e h1 h3 => by omega
    rw [this]; rfl
  · refine W.whl (fun m env st => ∃ d : Nat, env = [.sh (.int n), .sh (.int d)] ∧ st = none ∧ 3 ≤ d ∧ d % 2 = 1 ∧ d ≤ n + 2 ∧ (∀ e, 2 ≤ e → e < d → ¬ e ∣ n) ∧ m = n + 2 - d) (n + 2 - 3) ⟨3, rfl, rfl, Nat.le_refl _, rfl, by omega, fun e h1 h3 hd => ?_, rfl⟩ ?_
    · have : e = 2 := by omega
      subst this; omega
    · rintro m env st ⟨d, rfl, rfl, h3, ho, hd, hl, rfl⟩
      simp only [e_var, e_rd, e_sr, e_cst, e_op1, e_op2, e_op3, e_chain, e_band, e_bor, e_ife, e_anil, e_acons, e_lst, e_tup, e_bi, e_call, e_calls, e_sget, ls_l, gV_sh, gR_sh, gR_br, gR_ow, gS_sh, gS_br, gO_ow, gF_ow, gF_sh, sm_some, w_asg1, w_asg, w_asgO, w_par, w_ret, w_drop, w_aug, w_mut, w_seti, w_augi, w_pop, w_frz, w_sset, w_ife, w_skip, w_brk, w_cont, w_seq, kq_ret, kq_bk, kq_ct, kl_bk, kl_ret, br_b, decide_eq_true_eq, decide_eq_false_iff_not, Bool.not_eq_true', Bool.not_eq_false', reduceCtorEq, true_implies, false_implies, forall_const, not_true_eq_false, not_false_eq_true, and_true, true_and, implies_true, sm_add, sm_addI, sm_addL, sm_addT, sm_cat, sm_sub, sm_mul, sm_div, sm_mod, sm_pow, sm_neg, sm_lt, sm_le, sm_gt, sm_ge, sm_eqI, sm_neI, sm_eqB, sm_neB, sm_isN, sm_isNotN, sm_truI, sm_truB, sm_truN, sm_truL, sm_truT, sm_not, sm_ixL, sm_ixT, sm_at0, sm_at1, sm_at2, sm_lenL, sm_lenT, sm_abs, sm_int, sm_intB, sm_max2, sm_min2, sm_listL, sm_listT, sm_tupL, sm_tupT, sm_seqL, sm_seqT, sm_lsL, sm_rng1, sm_rng2, sm_rng3, sm_app, sm_rep1, sm_set1, sm_setN, sm_setC, sm_mixN, sm_mixC, sm_isi, sm_isi2, sm_item0, sm_item1, sm_iset0, sm_iset1, wipe_n, wipe_c, List.set_cons_zero, List.set_cons_succ, List.getElem?_cons_zero, List.getElem?_cons_succ, List.length_cons, List.length_nil, Nat.zero_le, Bool.false_eq_true, if_true, if_false, Bool.not_true, Bool.not_false, Bool.not_not, kq_nx]
      refine ⟨mul_sm, fun h1 => ⟨by omega, fun h4 => ?_, fun h4 => ?_⟩, fun h1 => ?_⟩
      · have := md_iff.mp h4
        rw [lf_eq h2 (by omega) this hl]
      · have h5 : ¬ d ∣ n := fun h => h4 (md_iff.mpr h)
        have hdn : d < n := by
          have h1' : d * d ≤ n := by exact_mod_cast h1
          have : 3 * d ≤ d * d := Nat.mul_le_mul_right _ h3
          omega
        refine ⟨_, by omega, d + 2, rfl, rfl, by omega, by omega, by omega, fun e e1 e2 hde => ?_, rfl⟩
        by_cases c : e < d
        · exact hl e e1 c hde
        · by_cases c2 : e = d
          · subst c2; exact h5 hde
          · have : e = d + 1 := by omega
            have h2d : 2 ∣ e := by omega
            have : 2 ∣ n := Nat.dvd_trans h2d hde
            omega
      · have h1' : n < d * d := by have : ¬ d * d ≤ n := fun h => h1 (by exact_mod_cast h)
                                   omega
        have : lf n = n := by
          by_cases c : Pr n
          · exact lf_eq h2 h2 (Nat.dvd_refl _) c.2
          · obtain ⟨a, b, e⟩ := small_div h2 c
            exact absurd b (hl _ a.1 (mul_self_lt (by omega)))
        rw [this]
noncomputable def fs_by_trials : List D → Option D := FV 1 2 z_by_trials
theorem sm_by_trials {n : Nat} {Q : D → Prop} (h2 : 2 ≤ n) (hn : n < 2305843009213693952) (q : Q (.int (lf n : Nat))) : Sm (fs_by_trials [.int n]) Q := by
  exact FV.sm1 rfl (w_by_trials h2 hn) q

/-! ### the whole root -/
theorem w_root_of {n : Nat} (hn : n < 1152921504606846976) : W z_root_of [.sh (.int n), .no, .no, .no] none (fun o => o = .ret (.int (isq n : Nat)) none) := by
  unfold z_root_of
  simp only [e_var, e_rd, e_sr, e_cst, e_op1, e_op2, e_op3, e_chain, e_band, e_bor, e_ife, e_anil, e_acons, e_lst, e_tup, e_bi, e_call, e_calls, e_sget, ls_l, gV_sh, gR_sh, gR_br, gR_ow, gS_sh, gS_br, gO_ow, gF_ow, gF_sh, sm_some, w_asg1, w_asg, w_asgO, w_par, w_ret, w_drop, w_aug, w_mut, w_seti, w_augi, w_pop, w_frz, w_sset, w_ife, w_skip, w_brk, w_cont, w_seq, kq_ret, kq_bk, kq_ct, kl_bk, kl_ret, br_b, decide_eq_true_eq, decide_eq_false_iff_not, Bool.not_eq_true', Bool.not_eq_false', reduceCtorEq, true_implies, false_implies, forall_const, not_true_eq_false, not_false_eq_true, and_true, true_and, implies_true, sm_add, sm_addI, sm_addL, sm_addT, sm_cat, sm_sub, sm_mul, sm_div, sm_mod, sm_pow, sm_neg, sm_lt, sm_le, sm_gt, sm_ge, sm_eqI, sm_neI, sm_eqB, sm_neB, sm_isN, sm_isNotN, sm_truI, sm_truB, sm_truN, sm_truL, sm_truT, sm_not, sm_ixL, sm_ixT, sm_at0, sm_at1, sm_at2, sm_lenL, sm_lenT, sm_abs, sm_int, sm_intB, sm_max2, sm_min2, sm_listL, sm_listT, sm_tupL, sm_tupT, sm_seqL, sm_seqT, sm_lsL, sm_rng1, sm_rng2, sm_rng3, sm_app, sm_rep1, sm_set1, sm_setN, sm_setC, sm_mixN, sm_mixC, sm_isi, sm_isi2, sm_item0, sm_item1, sm_iset0, sm_iset1, wipe_n, wipe_c, List.set_cons_zero, List.set_cons_succ, List.getElem?_cons_zero, List.getElem?_cons_succ, List.length_cons, List.length_nil, Nat.zero_le, Bool.false_eq_true, if_true, if_false, Bool.not_true, Bool.not_false, Bool.not_not, kq_nx]
  refine W.whl (fun m env st => ∃ (a b : Nat) (s : Sl), env = [.sh (.int n), .sh (.int a), .sh (.int b), s] ∧ st = none ∧ a < b ∧ b ≤ n + 1 ∧ a * a ≤ n ∧ n < b * b ∧ m = b - a) (n + 1) ⟨0, n + 1, .no, rfl, rfl, by omega, by omega, by omega, ?_, rfl⟩ ?_
  · have := Nat.le_mul_self (n + 1)
    omega
  · rintro m env st ⟨a, b, s, rfl, rfl, hab, hb, ha2, hb2, rfl⟩
    simp only [e_var, e_rd, e_sr, e_cst, e_op1, e_op2, e_op3, e_chain, e_band, e_bor, e_ife, e_anil, e_acons, e_lst, e_tup, e_bi, e_call, e_calls, e_sget, ls_l, gV_sh, gR_sh, gR_br, gR_ow, gS_sh, gS_br, gO_ow, gF_ow, gF_sh, sm_some, w_asg1, w_asg, w_asgO, w_par, w_ret, w_drop, w_aug, w_mut, w_seti, w_augi, w_pop, w_frz, w_sset, w_ife, w_skip, w_brk, w_cont, w_seq, kq_ret, kq_bk, kq_ct, kl_bk, kl_ret, br_b, decide_eq_true_eq, decide_eq_false_iff_not, Bool.not_eq_true', Bool.not_eq_false', reduceCtorEq, true_implies, false_implies, forall_const, not_true_eq_false, not_false_eq_true, and_true, true_and, implies_true, sm_add, sm_addI, sm_addL, sm_addT, sm_cat, sm_sub, sm_mul, sm_div, sm_mod, sm_pow, sm_neg, sm_lt, sm_le, sm_gt, sm_ge, sm_eqI, sm_neI, sm_eqB, sm_neB, sm_isN, sm_isNotN, sm_truI, sm_truB, sm_truN, sm_truL, sm_truT, sm_not, sm_ixL, sm_ixT, sm_at0, sm_at1, sm_at2, sm_lenL, sm_lenT, sm_abs, sm_int, sm_intB, sm_max2, sm_min2, sm_listL, sm_listT, sm_tupL, sm_tupT, sm_seqL, sm_seqT, sm_lsL, sm_rng1, sm_rng2, sm_rng3, sm_app, sm_rep1, sm_set1, sm_setN, sm_setC, sm_mixN, sm_mixC, sm_isi, sm_isi2, sm_item0, sm_item1, sm_iset0, sm_iset1, wipe_n, wipe_c, List.set_cons_zero, List.set_cons_succ, List.getElem?_cons_zero, List.getElem?_cons_succ, List.length_cons, List.length_nil, Nat.zero_le, Bool.false_eq_true, if_true, if_false, Bool.not_true, Bool.not_false, Bool.not_not, kq_nx]
    refine ⟨fun h0 => ⟨div_sm, mul_sm, fun h1 => ?_, fun h1 => ?_⟩, fun h0 => ?_⟩
    · refine ⟨_, ?_, (a + b) / 2, b, .sh (.int (((a : Int) + b) / 2)), ?_, rfl, by omega, hb, ?_, hb2, rfl⟩
      · omega
      · rw [Int.natCast_ediv, Int.natCast_add]; rfl
      · have : (((a + b) / 2 : Nat) : Int) * ((a + b) / 2 : Nat) ≤ n := by rw [Int.natCast_ediv, Int.natCast_add]; exact h1
        exact_mod_cast this
    · refine ⟨_, ?_, a, (a + b) / 2, .sh (.int (((a : Int) + b) / 2)), ?_, rfl, by omega, by omega, ha2, ?_, rfl⟩
      · omega
      · rw [Int.natCast_ediv, Int.natCast_add]; rfl
      · have : ¬ (((a + b) / 2 : Nat) : Int) * ((a + b) / 2 : Nat) ≤ n := by rw [Int.natCast_ediv, Int.natCast_add]; exact h1
        have : ¬ ((a + b) / 2) * ((a + b) / 2) ≤ n := fun h => this (by exact_mod_cast h)
        omega
    · have : b = a + 1 := by omega
      subst this
      rw [isq_eq ha2 hb2]
noncomputable def fs_root_of : List D → Option D := FV 1 4 z_root_of
theorem sm_root_of {i : Int} {n : Nat} {Q : D → Prop} (e : i = n) (hn : n < 1152921504606846976) (q : Q (.int (isq n : Nat))) : Sm (fs_root_of [.int i]) Q := by
  subst e; exact FV.sm1 rfl (w_root_of hn) q

/-! ### the law's primes -/
theorem primes_none {one : Nat} (h2 : 2 ≤ one) : ((primesTo (one - 1)).filter fun p : Nat => decide ((p : Int) * (p : Int) ≤ (one : Int)) && decide ((one : Int) / (p : Int) * (p : Int) = (one : Int))).isEmpty = isP one := by
  apply Bool.eq_iff_iff.mpr
  rw [List.isEmpty_iff, List.filter_eq_nil_iff, isP_iff, pr_iff h2]
  constructor
  · intro h p hp hle hd
    refine h p (mem_primesTo.mpr ⟨hp, ?_⟩) ?_
    · have : p * 2 ≤ p * p := Nat.mul_le_mul_left _ hp.1
      have := hp.1
      omega
    · rw [Bool.and_eq_true, decide_eq_true_eq, decide_eq_true_eq]
      exact ⟨by exact_mod_cast hle, dm_iff.mpr hd⟩
  · intro h p hp
    rw [Bool.and_eq_true, decide_eq_true_eq, decide_eq_true_eq]
    rintro ⟨h1, h3⟩
    exact h p (mem_primesTo.mp hp).1 (by exact_mod_cast h1) (dm_iff.mp h3)
theorem w__law_primes {m : Nat} (hm : m < 10000000) : W z__law_primes [.sh (.int m), .no, .no, .no] none (fun o => o = .ret (.list (natsD (primesTo m))) none) := by
  unfold z__law_primes
  simp only [e_var, e_rd, e_sr, e_cst, e_op1, e_op2, e_op3, e_chain, e_band, e_bor, e_ife, e_anil, e_acons, e_lst, e_tup, e_bi, e_call, e_calls, e_sget, ls_l, gV_sh, gR_sh, gR_br, gR_ow, gS_sh, gS_br, gO_ow, gF_ow, gF_sh, sm_some, w_asg1, w_asg, w_asgO, w_par, w_ret, w_drop, w_aug, w_mut, w_seti, w_augi, w_pop, w_frz, w_sset, w_ife, w_skip, w_brk, w_cont, w_seq, kq_ret, kq_bk, kq_ct, kl_bk, kl_ret, br_b, decide_eq_true_eq, decide_eq_false_iff_not, Bool.not_eq_true', Bool.not_eq_false', reduceCtorEq, true_implies, false_implies, forall_const, not_true_eq_false, not_false_eq_true, and_true, true_and, implies_true, sm_add, sm_addI, sm_addL, sm_addT, sm_cat, sm_sub, sm_mul, sm_div, sm_mod, sm_pow, sm_neg, sm_lt, sm_le, sm_gt, sm_ge, sm_eqI, sm_neI, sm_eqB, sm_neB, sm_isN, sm_isNotN, sm_truI, sm_truB, sm_truN, sm_truL, sm_truT, sm_not, sm_ixL, sm_ixT, sm_at0, sm_at1, sm_at2, sm_lenL, sm_lenT, sm_abs, sm_int, sm_intB, sm_max2, sm_min2, sm_listL, sm_listT, sm_tupL, sm_tupT, sm_seqL, sm_seqT, sm_lsL, sm_rng1, sm_rng2, sm_rng3, sm_app, sm_rep1, sm_set1, sm_setN, sm_setC, sm_mixN, sm_mixC, sm_isi, sm_isi2, sm_item0, sm_item1, sm_iset0, sm_iset1, wipe_n, wipe_c, List.set_cons_zero, List.set_cons_succ, List.getElem?_cons_zero, List.getElem?_cons_succ, List.length_cons, List.length_nil, Nat.zero_le, Bool.false_eq_true, if_true, if_false, Bool.not_true, Bool.not_false, Bool.not_not, kq_nx]
  refine W.rng (fun t env st => ∃ s : Sl, env = [.sh (.int m), .ow (.list (natsD (primesTo (t - 1).toNat))), s, .no] ∧ st = none) 2 (m - 1) ?_ ⟨.no, rfl, rfl⟩ ?_ ?_
  · simp only [e_var, e_rd, e_sr, e_cst, e_op1, e_op2, e_op3, e_chain, e_band, e_bor, e_ife, e_anil, e_acons, e_lst, e_tup, e_bi, e_call, e_calls, e_sget, ls_l, gV_sh, gR_sh, gR_br, gR_ow, gS_sh, gS_br, gO_ow, gF_ow, gF_sh, sm_some, w_asg1, w_asg, w_asgO, w_par, w_ret, w_drop, w_aug, w_mut, w_seti, w_augi, w_pop, w_frz, w_sset, w_ife, w_skip, w_brk, w_cont, w_seq, kq_ret, kq_bk, kq_ct, kl_bk, kl_ret, br_b, decide_eq_true_eq, decide_eq_false_iff_not, Bool.not_eq_true', Bool.not_eq_false', reduceCtorEq, true_implies, false_implies, forall_const, not_true_eq_false, not_false_eq_true, and_true, true_and, implies_true, sm_add, sm_addI, sm_addL, sm_addT, sm_cat, sm_sub, sm_mul, sm_div, sm_mod, sm_pow, sm_neg, sm_lt, sm_le, sm_gt, sm_ge, sm_eqI, sm_neI, sm_eqB, sm_neB, sm_isN, sm_isNotN, sm_truI, sm_truB, sm_truN, sm_truL, sm_truT, sm_not, sm_ixL, sm_ixT, sm_at0, sm_at1, sm_at2, sm_lenL, sm_lenT, sm_abs, sm_int, sm_intB, sm_max2, sm_min2, sm_listL, sm_listT, sm_tupL, sm_tupT, sm_seqL, sm_seqT, sm_lsL, sm_rng1, sm_rng2, sm_rng3, sm_app, sm_rep1, sm_set1, sm_setN, sm_setC, sm_mixN, sm_mixC, sm_isi, sm_isi2, sm_item0, sm_item1, sm_iset0, sm_iset1, wipe_n, wipe_c, List.set_cons_zero, List.set_cons_succ, List.getElem?_cons_zero, List.getElem?_cons_succ, List.length_cons, List.length_nil, Nat.zero_le, Bool.false_eq_true, if_true, if_false, Bool.not_true, Bool.not_false, Bool.not_not]
    refine ⟨by omega, ?_⟩
    congr 2; omega
  · rintro env st ⟨s, rfl, rfl⟩
    simp only [e_var, e_rd, e_sr, e_cst, e_op1, e_op2, e_op3, e_chain, e_band, e_bor, e_ife, e_anil, e_acons, e_lst, e_tup, e_bi, e_call, e_calls, e_sget, ls_l, gV_sh, gR_sh, gR_br, gR_ow, gS_sh, gS_br, gO_ow, gF_ow, gF_sh, sm_some, w_asg1, w_asg, w_asgO, w_par, w_ret, w_drop, w_aug, w_mut, w_seti, w_augi, w_pop, w_frz, w_sset, w_ife, w_skip, w_brk, w_cont, w_seq, kq_ret, kq_bk, kq_ct, kl_bk, kl_ret, br_b, decide_eq_true_eq, decide_eq_false_iff_not, Bool.not_eq_true', Bool.not_eq_false', reduceCtorEq, true_implies, false_implies, forall_const, not_true_eq_false, not_false_eq_true, and_true, true_and, implies_true, sm_add, sm_addI, sm_addL, sm_addT, sm_cat, sm_sub, sm_mul, sm_div, sm_mod, sm_pow, sm_neg, sm_lt, sm_le, sm_gt, sm_ge, sm_eqI, sm_neI, sm_eqB, sm_neB, sm_isN, sm_isNotN, sm_truI, sm_truB, sm_truN, sm_truL, sm_truT, sm_not, sm_ixL, sm_ixT, sm_at0, sm_at1, sm_at2, sm_lenL, sm_lenT, sm_abs, sm_int, sm_intB, sm_max2, sm_min2, sm_listL, sm_listT, sm_tupL, sm_tupT, sm_seqL, sm_seqT, sm_lsL, sm_rng1, sm_rng2, sm_rng3, sm_app, sm_rep1, sm_set1, sm_setN, sm_setC, sm_mixN, sm_mixC, sm_isi, sm_isi2, sm_item0, sm_item1, sm_iset0, sm_iset1, wipe_n, wipe_c, List.set_cons_zero, List.set_cons_succ, List.getElem?_cons_zero, List.getElem?_cons_succ, List.length_cons, List.length_nil, Nat.zero_le, Bool.false_eq_true, if_true, if_false, Bool.not_true, Bool.not_false, Bool.not_not, kq_nx]
    congr 1; congr 1; congr 1
    by_cases c : m = 0
    · subst c; rfl
    · congr 1; omega
  · rintro t env st ht1 ht2 ⟨s, rfl, rfl⟩
    obtain ⟨one, rfl⟩ := Int.eq_ofNat_of_zero_le (show 0 ≤ t by omega)
    simp only [e_var, e_rd, e_sr, e_cst, e_op1, e_op2, e_op3, e_chain, e_band, e_bor, e_ife, e_anil, e_acons, e_lst, e_tup, e_bi, e_call, e_calls, e_sget, ls_l, gV_sh, gR_sh, gR_br, gR_ow, gS_sh, gS_br, gO_ow, gF_ow, gF_sh, sm_some, w_asg1, w_asg, w_asgO, w_par, w_ret, w_drop, w_aug, w_mut, w_seti, w_augi, w_pop, w_frz, w_sset, w_ife, w_skip, w_brk, w_cont, w_seq, kq_ret, kq_bk, kq_ct, kl_bk, kl_ret, br_b, decide_eq_true_eq, decide_eq_false_iff_not, Bool.not_eq_true', Bool.not_eq_false', reduceCtorEq, true_implies, false_implies, forall_const, not_true_eq_false, not_false_eq_true, and_true, true_and, implies_true, sm_add, sm_addI, sm_addL, sm_addT, sm_cat, sm_sub, sm_mul, sm_div, sm_mod, sm_pow, sm_neg, sm_lt, sm_le, sm_gt, sm_ge, sm_eqI, sm_neI, sm_eqB, sm_neB, sm_isN, sm_isNotN, sm_truI, sm_truB, sm_truN, sm_truL, sm_truT, sm_not, sm_ixL, sm_ixT, sm_at0, sm_at1, sm_at2, sm_lenL, sm_lenT, sm_abs, sm_int, sm_intB, sm_max2, sm_min2, sm_listL, sm_listT, sm_tupL, sm_tupT, sm_seqL, sm_seqT, sm_lsL, sm_rng1, sm_rng2, sm_rng3, sm_app, sm_rep1, sm_set1, sm_setN, sm_setC, sm_mixN, sm_mixC, sm_isi, sm_isi2, sm_item0, sm_item1, sm_iset0, sm_iset1, wipe_n, wipe_c, List.set_cons_zero, List.set_cons_succ, List.getElem?_cons_zero, List.getElem?_cons_succ, List.length_cons, List.length_nil, Nat.zero_le, Bool.false_eq_true, if_true, if_false, Bool.not_true, Bool.not_false, Bool.not_not]
    have e1 : ((one : Int) - 1).toNat = one - 1 := by omega
    rw [e1]
    refine e_comp_of (fun d => match d with | .int i => decide (i * i ≤ (one : Int)) && decide ((one : Int) / i * i = (one : Int)) | _ => false) (fun d => d) ?_
    simp only [e_var, e_rd, e_sr, e_cst, e_op1, e_op2, e_op3, e_chain, e_band, e_bor, e_ife, e_anil, e_acons, e_lst, e_tup, e_bi, e_call, e_calls, e_sget, ls_l, gV_sh, gR_sh, gR_br, gR_ow, gS_sh, gS_br, gO_ow, gF_ow, gF_sh, sm_some, w_asg1, w_asg, w_asgO, w_par, w_ret, w_drop, w_aug, w_mut, w_seti, w_augi, w_pop, w_frz, w_sset, w_ife, w_skip, w_brk, w_cont, w_seq, kq_ret, kq_bk, kq_ct, kl_bk, kl_ret, br_b, decide_eq_true_eq, decide_eq_false_iff_not, Bool.not_eq_true', Bool.not_eq_false', reduceCtorEq, true_implies, false_implies, forall_const, not_true_eq_false, not_false_eq_true, and_true, true_and, implies_true, sm_add, sm_addI, sm_addL, sm_addT, sm_cat, sm_sub, sm_mul, sm_div, sm_mod, sm_pow, sm_neg, sm_lt, sm_le, sm_gt, sm_ge, sm_eqI, sm_neI, sm_eqB, sm_neB, sm_isN, sm_isNotN, sm_truI, sm_truB, sm_truN, sm_truL, sm_truT, sm_not, sm_ixL, sm_ixT, sm_at0, sm_at1, sm_at2, sm_lenL, sm_lenT, sm_abs, sm_int, sm_intB, sm_max2, sm_min2, sm_listL, sm_listT, sm_tupL, sm_tupT, sm_seqL, sm_seqT, sm_lsL, sm_rng1, sm_rng2, sm_rng3, sm_app, sm_rep1, sm_set1, sm_setN, sm_setC, sm_mixN, sm_mixC, sm_isi, sm_isi2, sm_item0, sm_item1, sm_iset0, sm_iset1, wipe_n, wipe_c, List.set_cons_zero, List.set_cons_succ, List.getElem?_cons_zero, List.getElem?_cons_succ, List.length_cons, List.length_nil, Nat.zero_le, Bool.false_eq_true, if_true, if_false, Bool.not_true, Bool.not_false, Bool.not_not]
    refine ⟨?_, ?_, ?_⟩
    · rw [natsD_len]; have := primesTo_len (m := one - 1); omega
    · intro d hd
      unfold natsD at hd
      obtain ⟨p, hp, rfl⟩ := List.mem_map.mp hd
      have hp' := mem_primesTo.mp hp
      have := hp'.1.1
      simp only [e_var, e_rd, e_sr, e_cst, e_op1, e_op2, e_op3, e_chain, e_band, e_bor, e_ife, e_anil, e_acons, e_lst, e_tup, e_bi, e_call, e_calls, e_sget, ls_l, gV_sh, gR_sh, gR_br, gR_ow, gS_sh, gS_br, gO_ow, gF_ow, gF_sh, sm_some, w_asg1, w_asg, w_asgO, w_par, w_ret, w_drop, w_aug, w_mut, w_seti, w_augi, w_pop, w_frz, w_sset, w_ife, w_skip, w_brk, w_cont, w_seq, kq_ret, kq_bk, kq_ct, kl_bk, kl_ret, br_b, decide_eq_true_eq, decide_eq_false_iff_not, Bool.not_eq_true', Bool.not_eq_false', reduceCtorEq, true_implies, false_implies, forall_const, not_true_eq_false, not_false_eq_true, and_true, true_and, implies_true, sm_add, sm_addI, sm_addL, sm_addT, sm_cat, sm_sub, sm_mul, sm_div, sm_mod, sm_pow, sm_neg, sm_lt, sm_le, sm_gt, sm_ge, sm_eqI, sm_neI, sm_eqB, sm_neB, sm_isN, sm_isNotN, sm_truI, sm_truB, sm_truN, sm_truL, sm_truT, sm_not, sm_ixL, sm_ixT, sm_at0, sm_at1, sm_at2, sm_lenL, sm_lenT, sm_abs, sm_int, sm_intB, sm_max2, sm_min2, sm_listL, sm_listT, sm_tupL, sm_tupT, sm_seqL, sm_seqT, sm_lsL, sm_rng1, sm_rng2, sm_rng3, sm_app, sm_rep1, sm_set1, sm_setN, sm_setC, sm_mixN, sm_mixC, sm_isi, sm_isi2, sm_item0, sm_item1, sm_iset0, sm_iset1, wipe_n, wipe_c, List.set_cons_zero, List.set_cons_succ, List.getElem?_cons_zero, List.getElem?_cons_succ, List.length_cons, List.length_nil, Nat.zero_le, Bool.false_eq_true, if_true, if_false, Bool.not_true, Bool.not_false, Bool.not_not]
      refine ⟨mul_sm, fun h1 => ⟨div_sm, ?_, ?_⟩, fun h1 => ?_⟩
      · have h3 := Int.ediv_le_self (a := (one : Int)) (p : Int) (by omega)
        have h4 : 0 ≤ (one : Int) / (p : Int) := Int.ediv_nonneg (by omega) (by omega)
        exact mul_sm
      · simp [h1]
      · simp [h1]
    · rw [natsD_filter, natsD_id]
      refine sm_eqNil ((Shp.nats).mono (by decide)) ?_
      rw [show ∀ l : List Nat, (natsD l).isEmpty = l.isEmpty from fun l => by cases l <;> rfl]
      rw [primes_none (by omega)]
      simp only [e_var, e_rd, e_sr, e_cst, e_op1, e_op2, e_op3, e_chain, e_band, e_bor, e_ife, e_anil, e_acons, e_lst, e_tup, e_bi, e_call, e_calls, e_sget, ls_l, gV_sh, gR_sh, gR_br, gR_ow, gS_sh, gS_br, gO_ow, gF_ow, gF_sh, sm_some, w_asg1, w_asg, w_asgO, w_par, w_ret, w_drop, w_aug, w_mut, w_seti, w_augi, w_pop, w_frz, w_sset, w_ife, w_skip, w_brk, w_cont, w_seq, kq_ret, kq_bk, kq_ct, kl_bk, kl_ret, br_b, decide_eq_true_eq, decide_eq_false_iff_not, Bool.not_eq_true', Bool.not_eq_false', reduceCtorEq, true_implies, false_implies, forall_const, not_true_eq_false, not_false_eq_true, and_true, true_and, implies_true, sm_add, sm_addI, sm_addL, sm_addT, sm_cat, sm_sub, sm_mul, sm_div, sm_mod, sm_pow, sm_neg, sm_lt, sm_le, sm_gt, sm_ge, sm_eqI, sm_neI, sm_eqB, sm_neB, sm_isN, sm_isNotN, sm_truI, sm_truB, sm_truN, sm_truL, sm_truT, sm_not, sm_ixL, sm_ixT, sm_at0, sm_at1, sm_at2, sm_lenL, sm_lenT, sm_abs, sm_int, sm_intB, sm_max2, sm_min2, sm_listL, sm_listT, sm_tupL, sm_tupT, sm_seqL, sm_seqT, sm_lsL, sm_rng1, sm_rng2, sm_rng3, sm_app, sm_rep1, sm_set1, sm_setN, sm_setC, sm_mixN, sm_mixC, sm_isi, sm_isi2, sm_item0, sm_item1, sm_iset0, sm_iset1, wipe_n, wipe_c, List.set_cons_zero, List.set_cons_succ, List.getElem?_cons_zero, List.getElem?_cons_succ, List.length_cons, List.length_nil, Nat.zero_le, Bool.false_eq_true, if_true, if_false, Bool.not_true, Bool.not_false, Bool.not_not]
      have e2 : ((one : Int) + 1 - 1).toNat = one - 1 + 1 := by omega
      refine ⟨fun hp => ⟨?_, .sh (.int one), ?_, rfl⟩, fun hp => ⟨.sh (.int one), ?_, rfl⟩⟩
      · rw [natsD_len]; have := primesTo_len (m := one - 1); omega
      · rw [e2, primesTo_succ, show one - 1 + 1 = one by omega, hp, if_pos rfl, ← natsD_app]; rfl
      · rw [e2, primesTo_succ, show one - 1 + 1 = one by omega, hp, if_neg (by simp)]
noncomputable def fs__law_primes : List D → Option D := FV 1 4 z__law_primes
theorem sm__law_primes {i : Int} {n : Nat} {Q : D → Prop} (e : i = n) (hn : n < 10000000) (q : Q (.list (natsD (primesTo n)))) : Sm (fs__law_primes [.int i]) Q := by
  subst e; exact FV.sm1 rfl (w__law_primes hn) q
end ZC
namespace Z
open PySem PySem.Spec PyProof.Rows L2
theorem rg_ok {i j c : Int} (h1 : 0 < c) (h2 : c < 1073741824) (h3 : -1152921504606846976 < i) (h4 : i < 1152921504606846976) (h5 : -1152921504606846976 < j) (h6 : j < 1152921504606846976) : rgOk i j c = true := by
  have hs : 0 ≤ Builtin.Range.rangeSize i j c ∧ Builtin.Range.rangeSize i j c < 4611686018427387904 := by
    unfold Builtin.Range.rangeSize
    rw [if_pos h1]
    split
    · have a := Int.ediv_nonneg (a := j - i - 1) (b := c) (by omega) (by omega)
      have b := Int.ediv_le_self (a := j - i - 1) c (by omega)
      omega
    · omega
  unfold rgOk Builtin.Range.small Builtin.Range.rangeFitsLong
  rw [if_pos h1]
  simp
  omega
end Z
namespace ZC
open PySem PySem.Spec PyProof.Rows L2 Z ZM

/-! ### the sieve -/
def sv (m : Nat) (g : Nat → Bool) : List D := (List.range (m + 1)).map fun j => PyData.bool (g j)
theorem sv_len {m g} : (sv m g).length = m + 1 := by unfold sv; simp
theorem sv_get {m : Nat} {g : Nat → Bool} {j : Nat} (h : j ≤ m) : (sv m g)[j]? = some (.bool (g j)) := by
  unfold sv
  rw [List.getElem?_map, List.getElem?_range (by omega)]; rfl
theorem sv_set {m : Nat} {g : Nat → Bool} {j : Nat} {b : Bool} (h : j ≤ m) : (sv m g).set j (.bool b) = sv m fun i => if i = j then b else g i := by
  apply List.ext_getElem?
  intro i
  by_cases hij : j = i
  · subst hij
    rw [List.getElem?_set_self (by rw [sv_len]; omega), sv_get h, if_pos rfl]
  · rw [List.getElem?_set_ne hij]
    by_cases hi : i ≤ m
    · rw [sv_get hi, sv_get hi, if_neg (Ne.symm hij)]
    · rw [List.getElem?_eq_none (by rw [sv_len]; omega), List.getElem?_eq_none (by rw [sv_len]; omega)]
theorem sv_one {m : Nat} : List.replicate (m + 1) (PyData.bool true) = sv m fun _ => true := by
  unfold sv
  apply List.ext_getElem?
  intro i
  by_cases hi : i < m + 1
  · rw [List.getElem?_replicate, if_pos hi, List.getElem?_map, List.getElem?_range hi]; rfl
  · rw [List.getElem?_eq_none (by simpa using hi), List.getElem?_eq_none (by simpa using hi)]
theorem mem_strike {m t j : Nat} (ht : 2 ≤ t) (hj : j ≤ m) : PyData.int (j : Nat) ∈ rngC ((t : Int) * t) (Builtin.Range.rangeSize ((t : Int) * t) (m + 1) t).toNat t ↔ t * t ≤ j ∧ t ∣ j := by
  unfold rngC Builtin.Range.rangeSize
  rw [if_pos (by omega)]
  simp only [List.mem_map, List.mem_range, PyData.int.injEq]
  constructor
  · rintro ⟨i, hi, e⟩
    have e' : t * t + i * t = j := by exact_mod_cast e
    exact ⟨by omega, ⟨t + i, by rw [← e', Nat.mul_add, Nat.mul_comm i]⟩⟩
  · rintro ⟨h1, q, rfl⟩
    have hq : t ≤ q := Nat.le_of_mul_le_mul_left h1 (by omega)
    obtain ⟨i, rfl⟩ := Nat.exists_eq_add_of_le hq
    have e0 : t * (t + i) = t * t + i * t := by rw [Nat.mul_add, Nat.mul_comm i]
    rw [e0] at hj ⊢
    have hlt : ((t : Int) * t) < (m : Int) + 1 := by
      have : ((t * t : Nat) : Int) < (m : Int) + 1 := by omega
      exact_mod_cast this
    rw [if_pos hlt]
    refine ⟨i, ?_, by simp⟩
    have : (i : Int) ≤ ((m : Int) + 1 - t * t - 1) / t := by
      apply Int.le_ediv_of_mul_le (by omega)
      have : ((i * t : Nat) : Int) ≤ (m : Int) + 1 - (t * t : Nat) - 1 := by omega
      rw [Int.natCast_mul, Int.natCast_mul] at this
      exact this
    omega
theorem strike_le {m t : Nat} (ht : 2 ≤ t) : ∀ x ∈ rngC ((t : Int) * t) (Builtin.Range.rangeSize ((t : Int) * t) (m + 1) t).toNat t, ∃ n : Nat, n ≤ m ∧ x = .int n := by
  intro x hx
  unfold rngC Builtin.Range.rangeSize at hx
  rw [if_pos (by omega)] at hx
  simp only [List.mem_map, List.mem_range] at hx
  obtain ⟨i, hi, rfl⟩ := hx
  split at hi
  · rename_i hlt
    refine ⟨t * t + i * t, ?_, by simp⟩
    have h1 : (i : Int) ≤ ((m : Int) + 1 - t * t - 1) / t := by omega
    have h2 := Int.mul_le_of_le_ediv (show (0 : Int) < t by omega) h1
    have : ((t * t + i * t : Nat) : Int) ≤ m := by rw [Int.natCast_add, Int.natCast_mul, Int.natCast_mul]; omega
    omega
  · simp at hi
theorem w_by_striking {m : Nat} (hm : m < 10000000) : W z_by_striking [.sh (.int m), .no, .no, .no, .no] none (fun o => o = .ret (.list (natsD (primesTo m))) none) := by
  unfold z_by_striking
  simp only [e_var, e_rd, e_sr, e_cst, e_op1, e_op2, e_op3, e_chain, e_band, e_bor, e_ife, e_anil, e_acons, e_lst, e_tup, e_bi, e_call, e_calls, e_sget, ls_l, gV_sh, gR_sh, gR_br, gR_ow, gS_sh, gS_br, gO_ow, gF_ow, gF_sh, sm_some, w_asg1, w_asg, w_asgO, w_par, w_ret, w_drop, w_aug, w_mut, w_seti, w_augi, w_pop, w_frz, w_sset, w_ife, w_skip, w_brk, w_cont, w_seq, kq_ret, kq_bk, kq_ct, kl_bk, kl_ret, br_b, decide_eq_true_eq, decide_eq_false_iff_not, Bool.not_eq_true', Bool.not_eq_false', reduceCtorEq, true_implies, false_implies, forall_const, not_true_eq_false, not_false_eq_true, and_true, true_and, implies_true, sm_add, sm_addI, sm_addL, sm_addT, sm_cat, sm_sub, sm_mul, sm_div, sm_mod, sm_pow, sm_neg, sm_lt, sm_le, sm_gt, sm_ge, sm_eqI, sm_neI, sm_eqB, sm_neB, sm_isN, sm_isNotN, sm_truI, sm_truB, sm_truN, sm_truL, sm_truT, sm_not, sm_ixL, sm_ixT, sm_at0, sm_at1, sm_at2, sm_lenL, sm_lenT, sm_abs, sm_int, sm_intB, sm_max2, sm_min2, sm_listL, sm_listT, sm_tupL, sm_tupT, sm_seqL, sm_seqT, sm_lsL, sm_rng1, sm_rng2, sm_rng3, sm_app, sm_rep1, sm_set1, sm_setN, sm_setC, sm_mixN, sm_mixC, sm_isi, sm_isi2, sm_item0, sm_item1, sm_iset0, sm_iset1, wipe_n, wipe_c, List.set_cons_zero, List.set_cons_succ, List.getElem?_cons_zero, List.getElem?_cons_succ, List.length_cons, List.length_nil, Nat.zero_le, Bool.false_eq_true, if_true, if_false, Bool.not_true, Bool.not_false, Bool.not_not, kq_nx]
  refine ⟨by omega, by omega, ?_⟩
  rw [show ((m : Int) + 1).toNat = m + 1 by omega, sv_one]
  refine W.rng (fun t env st => ∃ (s3 s4 : Sl) (g : Nat → Bool) (l : List D), env = [.sh (.int m), .ow (.list (sv m g)), .ow (.list l), s3, s4] ∧ st = none ∧ l = natsD (primesTo (t - 1).toNat) ∧
      ∀ j : Nat, t ≤ j → j ≤ m → (g j = true ↔ ∀ p, Pr p → p < t.toNat → p * p ≤ j → ¬ p ∣ j)) 2 (m - 1) ?_ ⟨.no, .no, _, _, rfl, rfl, rfl, fun j h1 h2 => ⟨fun _ p hp h3 => by have := hp.1; omega, fun _ => rfl⟩⟩ ?_ ?_
  · simp only [e_var, e_rd, e_sr, e_cst, e_op1, e_op2, e_op3, e_chain, e_band, e_bor, e_ife, e_anil, e_acons, e_lst, e_tup, e_bi, e_call, e_calls, e_sget, ls_l, gV_sh, gR_sh, gR_br, gR_ow, gS_sh, gS_br, gO_ow, gF_ow, gF_sh, sm_some, w_asg1, w_asg, w_asgO, w_par, w_ret, w_drop, w_aug, w_mut, w_seti, w_augi, w_pop, w_frz, w_sset, w_ife, w_skip, w_brk, w_cont, w_seq, kq_ret, kq_bk, kq_ct, kl_bk, kl_ret, br_b, decide_eq_true_eq, decide_eq_false_iff_not, Bool.not_eq_true', Bool.not_eq_false', reduceCtorEq, true_implies, false_implies, forall_const, not_true_eq_false, not_false_eq_true, and_true, true_and, implies_true, sm_add, sm_addI, sm_addL, sm_addT, sm_cat, sm_sub, sm_mul, sm_div, sm_mod, sm_pow, sm_neg, sm_lt, sm_le, sm_gt, sm_ge, sm_eqI, sm_neI, sm_eqB, sm_neB, sm_isN, sm_isNotN, sm_truI, sm_truB, sm_truN, sm_truL, sm_truT, sm_not, sm_ixL, sm_ixT, sm_at0, sm_at1, sm_at2, sm_lenL, sm_lenT, sm_abs, sm_int, sm_intB, sm_max2, sm_min2, sm_listL, sm_listT, sm_tupL, sm_tupT, sm_seqL, sm_seqT, sm_lsL, sm_rng1, sm_rng2, sm_rng3, sm_app, sm_rep1, sm_set1, sm_setN, sm_setC, sm_mixN, sm_mixC, sm_isi, sm_isi2, sm_item0, sm_item1, sm_iset0, sm_iset1, wipe_n, wipe_c, List.set_cons_zero, List.set_cons_succ, List.getElem?_cons_zero, List.getElem?_cons_succ, List.length_cons, List.length_nil, Nat.zero_le, Bool.false_eq_true, if_true, if_false, Bool.not_true, Bool.not_false, Bool.not_not]
    refine ⟨by omega, ?_⟩
    congr 2; omega
  · rintro env st ⟨s3, s4, g, l, rfl, rfl, rfl, _⟩
    simp only [e_var, e_rd, e_sr, e_cst, e_op1, e_op2, e_op3, e_chain, e_band, e_bor, e_ife, e_anil, e_acons, e_lst, e_tup, e_bi, e_call, e_calls, e_sget, ls_l, gV_sh, gR_sh, gR_br, gR_ow, gS_sh, gS_br, gO_ow, gF_ow, gF_sh, sm_some, w_asg1, w_asg, w_asgO, w_par, w_ret, w_drop, w_aug, w_mut, w_seti, w_augi, w_pop, w_frz, w_sset, w_ife, w_skip, w_brk, w_cont, w_seq, kq_ret, kq_bk, kq_ct, kl_bk, kl_ret, br_b, decide_eq_true_eq, decide_eq_false_iff_not, Bool.not_eq_true', Bool.not_eq_false', reduceCtorEq, true_implies, false_implies, forall_const, not_true_eq_false, not_false_eq_true, and_true, true_and, implies_true, sm_add, sm_addI, sm_addL, sm_addT, sm_cat, sm_sub, sm_mul, sm_div, sm_mod, sm_pow, sm_neg, sm_lt, sm_le, sm_gt, sm_ge, sm_eqI, sm_neI, sm_eqB, sm_neB, sm_isN, sm_isNotN, sm_truI, sm_truB, sm_truN, sm_truL, sm_truT, sm_not, sm_ixL, sm_ixT, sm_at0, sm_at1, sm_at2, sm_lenL, sm_lenT, sm_abs, sm_int, sm_intB, sm_max2, sm_min2, sm_listL, sm_listT, sm_tupL, sm_tupT, sm_seqL, sm_seqT, sm_lsL, sm_rng1, sm_rng2, sm_rng3, sm_app, sm_rep1, sm_set1, sm_setN, sm_setC, sm_mixN, sm_mixC, sm_isi, sm_isi2, sm_item0, sm_item1, sm_iset0, sm_iset1, wipe_n, wipe_c, List.set_cons_zero, List.set_cons_succ, List.getElem?_cons_zero, List.getElem?_cons_succ, List.length_cons, List.length_nil, Nat.zero_le, Bool.false_eq_true, if_true, if_false, Bool.not_true, Bool.not_false, Bool.not_not, kq_nx]
    congr 1; congr 1; congr 1
    by_cases c : m = 0
    · subst c; rfl
    · congr 1; omega
  · rintro t env st ht1 ht2 ⟨s3, s4, g, l, rfl, rfl, rfl, hg⟩
    obtain ⟨one, rfl⟩ := Int.eq_ofNat_of_zero_le (show 0 ≤ t by omega)
    have hone : one ≤ m := by omega
    simp only [e_var, e_rd, e_sr, e_cst, e_op1, e_op2, e_op3, e_chain, e_band, e_bor, e_ife, e_anil, e_acons, e_lst, e_tup, e_bi, e_call, e_calls, e_sget, ls_l, gV_sh, gR_sh, gR_br, gR_ow, gS_sh, gS_br, gO_ow, gF_ow, gF_sh, sm_some, w_asg1, w_asg, w_asgO, w_par, w_ret, w_drop, w_aug, w_mut, w_seti, w_augi, w_pop, w_frz, w_sset, w_ife, w_skip, w_brk, w_cont, w_seq, kq_ret, kq_bk, kq_ct, kl_bk, kl_ret, br_b, decide_eq_true_eq, decide_eq_false_iff_not, Bool.not_eq_true', Bool.not_eq_false', reduceCtorEq, true_implies, false_implies, forall_const, not_true_eq_false, not_false_eq_true, and_true, true_and, implies_true, sm_add, sm_addI, sm_addL, sm_addT, sm_cat, sm_sub, sm_mul, sm_div, sm_mod, sm_pow, sm_neg, sm_lt, sm_le, sm_gt, sm_ge, sm_eqI, sm_neI, sm_eqB, sm_neB, sm_isN, sm_isNotN, sm_truI, sm_truB, sm_truN, sm_truL, sm_truT, sm_not, sm_ixL, sm_ixT, sm_at0, sm_at1, sm_at2, sm_lenL, sm_lenT, sm_abs, sm_int, sm_intB, sm_max2, sm_min2, sm_listL, sm_listT, sm_tupL, sm_tupT, sm_seqL, sm_seqT, sm_lsL, sm_rng1, sm_rng2, sm_rng3, sm_app, sm_rep1, sm_set1, sm_setN, sm_setC, sm_mixN, sm_mixC, sm_isi, sm_isi2, sm_item0, sm_item1, sm_iset0, sm_iset1, wipe_n, wipe_c, List.set_cons_zero, List.set_cons_succ, List.getElem?_cons_zero, List.getElem?_cons_succ, List.length_cons, List.length_nil, Nat.zero_le, Bool.false_eq_true, if_true, if_false, Bool.not_true, Bool.not_false, Bool.not_not]
    refine sm_at (by omega) (by rw [Int.toNat_natCast]; exact sv_get hone) ?_
    have hpr : g one = true ↔ Pr one := by
      rw [hg one (by omega) hone, pr_iff (by omega), Int.toNat_natCast]
      exact ⟨fun h p hp hle => h p hp (by have : p * 2 ≤ p * p := Nat.mul_le_mul_left _ hp.1
                                          have := hp.1; omega) hle, fun h p hp _ hle => h p hp hle⟩
    have e1 : ((one : Int) - 1).toNat = one - 1 := by omega
    have e2 : ((one : Int) + 1 - 1).toNat = one - 1 + 1 := by omega
    have e3 : ((one : Int) + 1).toNat = one + 1 := by omega
    simp only [e_var, e_rd, e_sr, e_cst, e_op1, e_op2, e_op3, e_chain, e_band, e_bor, e_ife, e_anil, e_acons, e_lst, e_tup, e_bi, e_call, e_calls, e_sget, ls_l, gV_sh, gR_sh, gR_br, gR_ow, gS_sh, gS_br, gO_ow, gF_ow, gF_sh, sm_some, w_asg1, w_asg, w_asgO, w_par, w_ret, w_drop, w_aug, w_mut, w_seti, w_augi, w_pop, w_frz, w_sset, w_ife, w_skip, w_brk, w_cont, w_seq, kq_ret, kq_bk, kq_ct, kl_bk, kl_ret, br_b, decide_eq_true_eq, decide_eq_false_iff_not, Bool.not_eq_true', Bool.not_eq_false', reduceCtorEq, true_implies, false_implies, forall_const, not_true_eq_false, not_false_eq_true, and_true, true_and, implies_true, sm_add, sm_addI, sm_addL, sm_addT, sm_cat, sm_sub, sm_mul, sm_div, sm_mod, sm_pow, sm_neg, sm_lt, sm_le, sm_gt, sm_ge, sm_eqI, sm_neI, sm_eqB, sm_neB, sm_isN, sm_isNotN, sm_truI, sm_truB, sm_truN, sm_truL, sm_truT, sm_not, sm_ixL, sm_ixT, sm_at0, sm_at1, sm_at2, sm_lenL, sm_lenT, sm_abs, sm_int, sm_intB, sm_max2, sm_min2, sm_listL, sm_listT, sm_tupL, sm_tupT, sm_seqL, sm_seqT, sm_lsL, sm_rng1, sm_rng2, sm_rng3, sm_app, sm_rep1, sm_set1, sm_setN, sm_setC, sm_mixN, sm_mixC, sm_isi, sm_isi2, sm_item0, sm_item1, sm_iset0, sm_iset1, wipe_n, wipe_c, List.set_cons_zero, List.set_cons_succ, List.getElem?_cons_zero, List.getElem?_cons_succ, List.length_cons, List.length_nil, Nat.zero_le, Bool.false_eq_true, if_true, if_false, Bool.not_true, Bool.not_false, Bool.not_not, kq_nx]
    refine ⟨fun hp => ⟨?_, ?_⟩, fun hp => ?_⟩
    · rw [natsD_len]; have := primesTo_len (m := ((one : Int) - 1).toNat); omega
    · have hP := hpr.mp hp
      have ho2 : 2 ≤ one := hP.1
      refine W.forL (fun ts env st => ∃ (s4 : Sl) (g' : Nat → Bool), env = [.sh (.int m), .ow (.list (sv m g')), .ow (.list (natsD (primesTo ((one : Int) - 1).toNat) ++ [.int one])), .sh (.int one), s4] ∧ st = none ∧
        (∀ x ∈ ts, ∃ n : Nat, n ≤ m ∧ x = .int n) ∧ ∀ j : Nat, j ≤ m → ((g' j = true ∧ PyData.int (j : Nat) ∉ ts) ↔ (g j = true ∧ PyData.int (j : Nat) ∉ rngC ((one : Int) * one) (Builtin.Range.rangeSize ((one : Int) * one) (m + 1) one).toNat one)))
        (rngC ((one : Int) * one) (Builtin.Range.rangeSize ((one : Int) * one) (m + 1) one).toNat one) ?_ ⟨_, g, rfl, rfl, strike_le ho2, fun j _ => Iff.rfl⟩ ?_ ?_
      · simp only [e_var, e_rd, e_sr, e_cst, e_op1, e_op2, e_op3, e_chain, e_band, e_bor, e_ife, e_anil, e_acons, e_lst, e_tup, e_bi, e_call, e_calls, e_sget, ls_l, gV_sh, gR_sh, gR_br, gR_ow, gS_sh, gS_br, gO_ow, gF_ow, gF_sh, sm_some, w_asg1, w_asg, w_asgO, w_par, w_ret, w_drop, w_aug, w_mut, w_seti, w_augi, w_pop, w_frz, w_sset, w_ife, w_skip, w_brk, w_cont, w_seq, kq_ret, kq_bk, kq_ct, kl_bk, kl_ret, br_b, decide_eq_true_eq, decide_eq_false_iff_not, Bool.not_eq_true', Bool.not_eq_false', reduceCtorEq, true_implies, false_implies, forall_const, not_true_eq_false, not_false_eq_true, and_true, true_and, implies_true, sm_add, sm_addI, sm_addL, sm_addT, sm_cat, sm_sub, sm_mul, sm_div, sm_mod, sm_pow, sm_neg, sm_lt, sm_le, sm_gt, sm_ge, sm_eqI, sm_neI, sm_eqB, sm_neB, sm_isN, sm_isNotN, sm_truI, sm_truB, sm_truN, sm_truL, sm_truT, sm_not, sm_ixL, sm_ixT, sm_at0, sm_at1, sm_at2, sm_lenL, sm_lenT, sm_abs, sm_int, sm_intB, sm_max2, sm_min2, sm_listL, sm_listT, sm_tupL, sm_tupT, sm_seqL, sm_seqT, sm_lsL, sm_rng1, sm_rng2, sm_rng3, sm_app, sm_rep1, sm_set1, sm_setN, sm_setC, sm_mixN, sm_mixC, sm_isi, sm_isi2, sm_item0, sm_item1, sm_iset0, sm_iset1, wipe_n, wipe_c, List.set_cons_zero, List.set_cons_succ, List.getElem?_cons_zero, List.getElem?_cons_succ, List.length_cons, List.length_nil, Nat.zero_le, Bool.false_eq_true, if_true, if_false, Bool.not_true, Bool.not_false, Bool.not_not]
        refine ⟨mul_sm, ?_⟩
        have : one * one ≤ 10000000 * 10000000 := Nat.mul_le_mul (by omega) (by omega)
        have : ((one * one : Nat) : Int) < 100000000000001 := by omega
        have : (0 : Int) ≤ ((one * one : Nat) : Int) := by omega
        rw [Int.natCast_mul] at *
        exact rg_ok (by omega) (by omega) (by omega) (by omega) (by omega) (by omega)
      · rintro env st ⟨s4, g', rfl, rfl, _, hj⟩
        refine ⟨_, _, g', _, rfl, rfl, ?_, fun j h1 h2 => ?_⟩
        · rw [e2, primesTo_succ, show one - 1 + 1 = one by omega, isP_iff.mpr hP, if_pos rfl, ← natsD_app, e1]; rfl
        · have := hj j h2
          simp only [List.not_mem_nil, not_false_eq_true, and_true] at this
          rw [this, mem_strike ho2 h2, hg j (by omega) h2, e3, Int.toNat_natCast]
          constructor
          · rintro ⟨a, b⟩ p hp h3 h4 h5
            by_cases c : p = one
            · subst c; exact b ⟨h4, h5⟩
            · exact a p hp (by omega) h4 h5
          · intro h
            exact ⟨fun p hp h3 => h p hp (by omega), fun ⟨a, b⟩ => h one hP (by omega) a b⟩
      · rintro x ts env st ⟨s4, g', rfl, rfl, hts, hj⟩
        obtain ⟨n, hn, rfl⟩ := hts x (.head _)
        simp only [e_var, e_rd, e_sr, e_cst, e_op1, e_op2, e_op3, e_chain, e_band, e_bor, e_ife, e_anil, e_acons, e_lst, e_tup, e_bi, e_call, e_calls, e_sget, ls_l, gV_sh, gR_sh, gR_br, gR_ow, gS_sh, gS_br, gO_ow, gF_ow, gF_sh, sm_some, w_asg1, w_asg, w_asgO, w_par, w_ret, w_drop, w_aug, w_mut, w_seti, w_augi, w_pop, w_frz, w_sset, w_ife, w_skip, w_brk, w_cont, w_seq, kq_ret, kq_bk, kq_ct, kl_bk, kl_ret, br_b, decide_eq_true_eq, decide_eq_false_iff_not, Bool.not_eq_true', Bool.not_eq_false', reduceCtorEq, true_implies, false_implies, forall_const, not_true_eq_false, not_false_eq_true, and_true, true_and, implies_true, sm_add, sm_addI, sm_addL, sm_addT, sm_cat, sm_sub, sm_mul, sm_div, sm_mod, sm_pow, sm_neg, sm_lt, sm_le, sm_gt, sm_ge, sm_eqI, sm_neI, sm_eqB, sm_neB, sm_isN, sm_isNotN, sm_truI, sm_truB, sm_truN, sm_truL, sm_truT, sm_not, sm_ixL, sm_ixT, sm_at0, sm_at1, sm_at2, sm_lenL, sm_lenT, sm_abs, sm_int, sm_intB, sm_max2, sm_min2, sm_listL, sm_listT, sm_tupL, sm_tupT, sm_seqL, sm_seqT, sm_lsL, sm_rng1, sm_rng2, sm_rng3, sm_app, sm_rep1, sm_set1, sm_setN, sm_setC, sm_mixN, sm_mixC, sm_isi, sm_isi2, sm_item0, sm_item1, sm_iset0, sm_iset1, wipe_n, wipe_c, List.set_cons_zero, List.set_cons_succ, List.getElem?_cons_zero, List.getElem?_cons_succ, List.length_cons, List.length_nil, Nat.zero_le, Bool.false_eq_true, if_true, if_false, Bool.not_true, Bool.not_false, Bool.not_not, kq_nx]
        rw [sm_setL (by rw [sv_len]; omega), sv_set hn]
        refine ⟨_, _, rfl, rfl, fun x hx => hts x (.tail _ hx), fun j h1 => ?_⟩
        rw [← hj j h1]
        by_cases c : j = n
        · subst c; simp
        · have : (PyData.int (j : Int) = PyData.int (n : Int)) ↔ False := by simp; omega
          simp [c, this]
    · have hP : ¬ Pr one := fun h => by rw [hpr.mpr h] at hp; cases hp
      refine ⟨_, _, g, _, rfl, rfl, ?_, fun j h1 h2 => ?_⟩
      · have : isP one = false := by cases h : isP one
                                     · rfl
                                     · exact absurd (isP_iff.mp h) hP
        rw [e2, primesTo_succ, show one - 1 + 1 = one by omega, this, if_neg (by simp), e1]
      · rw [hg j (by omega) h2, e3, Int.toNat_natCast]
        constructor
        · intro h p hp h3 h4
          have : p ≠ one := fun c => hP (c ▸ hp)
          exact h p hp (by omega) h4
        · intro h p hp h3 h4
          exact h p hp (by omega) h4
noncomputable def fs_by_striking : List D → Option D := FV 1 5 z_by_striking
theorem sm_by_striking {i : Int} {n : Nat} {Q : D → Prop} (e : i = n) (hn : n < 10000000) (q : Q (.list (natsD (primesTo n)))) : Sm (fs_by_striking [.int i]) Q := by
  subst e; exact FV.sm1 rfl (w_by_striking hn) q
end ZC
namespace Z
open PySem PySem.Spec PyProof.Rows L2
/-! ### scripts -/
def Scr (S : List D) : Prop := ∃ ns, Good63 ns ∧ S = ns.map PyData.int
theorem sz_bits {z : Int} {k : Nat} (h : Builtin.Int.intBits z ≤ k) : Sz k z := by
  unfold Builtin.Int.intBits at h
  unfold Sz
  split at h
  · rename_i h0
    have : z = 0 := by simpa using h0
    subst this
    exact Nat.two_pow_pos k
  · have h1 : z.natAbs < 2 ^ (z.natAbs.log2 + 1) := Nat.lt_log2_self
    exact Nat.lt_of_lt_of_le h1 (Nat.pow_le_pow_right (by decide) h)
theorem Scr.get {S : List D} (h : Scr S) {i : Nat} (hi : i < S.length) : ∃ z : Int, S[i]? = some (.int z) ∧ Sz 1048576 z := by
  obtain ⟨ns, ⟨hl, hb⟩, rfl⟩ := h
  rw [List.length_map] at hi
  refine ⟨ns[i], ?_, sz_bits (hb _ (List.getElem_mem hi))⟩
  rw [List.getElem?_map, List.getElem?_eq_getElem hi]
  rfl
theorem Scr.len {S : List D} (h : Scr S) : S.length ≤ 63 := by
  obtain ⟨ns, ⟨hl, hb⟩, rfl⟩ := h
  rwa [List.length_map]
/-- a state that may still be drawn from b times -/
def GoodT (b : Nat) (t : D) : Prop := ∃ k v : Int, t = .list [.int k, .int v] ∧ 0 ≤ k ∧ k + b < 2305843009213693952 ∧ 0 ≤ v ∧ Sz 1048580 v
theorem GoodT.mono {b c : Nat} {t : D} (h : GoodT b t) (l : c ≤ b) : GoodT c t := by
  obtain ⟨k, v, e, h0, h1, h2, h3⟩ := h
  exact ⟨k, v, e, h0, by omega, h2, h3⟩
theorem Sz.zero {k : Nat} : Sz k 0 := Nat.two_pow_pos k
theorem GoodT.zero {b : Nat} (h : b < 2305843009213693952 := by decide) : GoodT b (.list [.int 0, .int 0]) := ⟨0, 0, rfl, by decide, by omega, by decide, Sz.zero⟩
end Z
namespace ZC
open PySem PySem.Spec PyProof.Rows L2 Z ZM

theorem w__law_refill {S : List D} (hS : Scr S) {k : Int} (hk : 0 ≤ k) (hk' : k < 4611686018427387904) : W z__law_refill [.br (.list S), .sh (.int k), .no] none (fun o => ∃ c : Int, o = .ret (.int c) none ∧ 0 ≤ c ∧ Sz 1048580 c) := by
  unfold z__law_refill
  simp only [e_var, e_rd, e_sr, e_cst, e_op1, e_op2, e_op3, e_chain, e_band, e_bor, e_ife, e_anil, e_acons, e_lst, e_tup, e_bi, e_call, e_calls, e_sget, ls_l, gV_sh, gR_sh, gR_br, gR_ow, gS_sh, gS_br, gO_ow, gF_ow, gF_sh, sm_some, w_asg1, w_asg, w_asgO, w_par, w_ret, w_drop, w_aug, w_mut, w_seti, w_augi, w_pop, w_frz, w_sset, w_ife, w_skip, w_brk, w_cont, w_seq, kq_ret, kq_bk, kq_ct, kl_bk, kl_ret, br_b, decide_eq_true_eq, decide_eq_false_iff_not, Bool.not_eq_true', Bool.not_eq_false', reduceCtorEq, true_implies, false_implies, forall_const, not_true_eq_false, not_false_eq_true, and_true, true_and, implies_true, sm_add, sm_addI, sm_addL, sm_addT, sm_cat, sm_sub, sm_mul, sm_div, sm_mod, sm_pow, sm_neg, sm_lt, sm_le, sm_gt, sm_ge, sm_eqI, sm_neI, sm_eqB, sm_neB, sm_isN, sm_isNotN, sm_truI, sm_truB, sm_truN, sm_truL, sm_truT, sm_not, sm_ixL, sm_ixT, sm_at0, sm_at1, sm_at2, sm_lenL, sm_lenT, sm_abs, sm_int, sm_intB, sm_max2, sm_min2, sm_listL, sm_listT, sm_tupL, sm_tupT, sm_seqL, sm_seqT, sm_lsL, sm_rng1, sm_rng2, sm_rng3, sm_app, sm_rep1, sm_set1, sm_setN, sm_setC, sm_mixN, sm_mixC, sm_isi, sm_isi2, sm_item0, sm_item1, sm_iset0, sm_iset1, wipe_n, wipe_c, List.set_cons_zero, List.set_cons_succ, List.getElem?_cons_zero, List.getElem?_cons_succ, List.length_cons, List.length_nil, Nat.zero_le, Bool.false_eq_true, if_true, if_false, Bool.not_true, Bool.not_false, Bool.not_not]
  rw [kq_nx]
  have hlen := hS.len
  refine W.cut (P := fun o => ∃ c : Int, o = .nx [.br (.list S), .sh (.int k), .sh (.int c)] none ∧ Sz 1048576 c) ?_ ?_
  · simp only [e_var, e_rd, e_sr, e_cst, e_op1, e_op2, e_op3, e_chain, e_band, e_bor, e_ife, e_anil, e_acons, e_lst, e_tup, e_bi, e_call, e_calls, e_sget, ls_l, gV_sh, gR_sh, gR_br, gR_ow, gS_sh, gS_br, gO_ow, gF_ow, gF_sh, sm_some, w_asg1, w_asg, w_asgO, w_par, w_ret, w_drop, w_aug, w_mut, w_seti, w_augi, w_pop, w_frz, w_sset, w_ife, w_skip, w_brk, w_cont, w_seq, kq_ret, kq_bk, kq_ct, kl_bk, kl_ret, br_b, decide_eq_true_eq, decide_eq_false_iff_not, Bool.not_eq_true', Bool.not_eq_false', reduceCtorEq, true_implies, false_implies, forall_const, not_true_eq_false, not_false_eq_true, and_true, true_and, implies_true, sm_add, sm_addI, sm_addL, sm_addT, sm_cat, sm_sub, sm_mul, sm_div, sm_mod, sm_pow, sm_neg, sm_lt, sm_le, sm_gt, sm_ge, sm_eqI, sm_neI, sm_eqB, sm_neB, sm_isN, sm_isNotN, sm_truI, sm_truB, sm_truN, sm_truL, sm_truT, sm_not, sm_ixL, sm_ixT, sm_at0, sm_at1, sm_at2, sm_lenL, sm_lenT, sm_abs, sm_int, sm_intB, sm_max2, sm_min2, sm_listL, sm_listT, sm_tupL, sm_tupT, sm_seqL, sm_seqT, sm_lsL, sm_rng1, sm_rng2, sm_rng3, sm_app, sm_rep1, sm_set1, sm_setN, sm_setC, sm_mixN, sm_mixC, sm_isi, sm_isi2, sm_item0, sm_item1, sm_iset0, sm_iset1, wipe_n, wipe_c, List.set_cons_zero, List.set_cons_succ, List.getElem?_cons_zero, List.getElem?_cons_succ, List.length_cons, List.length_nil, Nat.zero_le, Bool.false_eq_true, if_true, if_false, Bool.not_true, Bool.not_false, Bool.not_not]
    refine ⟨fun h => ?_, fun h => ⟨0, rfl, Sz.zero⟩⟩
    have hne : 0 < S.length := by cases S with
      | nil => cases h
      | cons => simp
    refine ⟨by omega, ?_⟩
    have h1 := Int.emod_nonneg k (show (S.length : Int) ≠ 0 by omega)
    have h2 := Int.emod_lt_of_pos k (show (0 : Int) < S.length by omega)
    obtain ⟨z, e, hz⟩ := hS.get (i := (k % (S.length : Int)).toNat) (by omega)
    exact sm_at h1 e ⟨z, rfl, hz⟩
  · rintro o ⟨c, rfl, hc⟩
    have big : Sz 1048580 (1 - 2 * c) := by
      have a : Sz (2 + 1048576) (2 * c) := Sz.mul (k := 2) (by unfold Sz; decide) hc
      exact (Sz.sub (k := 2 + 1048576) (i := 1) (Sz.mono (k := 2) (by unfold Sz; decide) (by decide)) a).mono (by decide)
    have fin : ∀ c : Int, 0 ≤ c → Sz 1048580 c → W (.seq (.ife (.band (.op2 dGe (.rd 2) (.op2 dPow (.cst (.int 10)) (.cst (.int 18)))) (.op2 dLt (.rd 1) (.bi dLen (.acons (.rd 0) .anil)))) 
  (.ret (.var 2)) .skip) 
  (.ret (.op2 dMod (.bi dInt (.acons (.op2 dAdd (.op2 dMul (.bi dInt (.acons (.op2 dAdd (.op2 dAdd (.op2 dMul (.rd 2) (.cst (.int 48271))) (.op2 dMul (.rd 1) (.cst (.int 69621)))) (.cst (.int 12345))) .anil)) (.cst (.int 40692))) (.cst (.int 7))) .anil)) (.cst (.int 2147483399))))) [.br (.list S), .sh (.int k), .sh (.int c)] none (fun o => ∃ c : Int, o = .ret (.int c) none ∧ 0 ≤ c ∧ Sz 1048580 c) := by
      intro c h0 hc
      simp only [e_var, e_rd, e_sr, e_cst, e_op1, e_op2, e_op3, e_chain, e_band, e_bor, e_ife, e_anil, e_acons, e_lst, e_tup, e_bi, e_call, e_calls, e_sget, ls_l, gV_sh, gR_sh, gR_br, gR_ow, gS_sh, gS_br, gO_ow, gF_ow, gF_sh, sm_some, w_asg1, w_asg, w_asgO, w_par, w_ret, w_drop, w_aug, w_mut, w_seti, w_augi, w_pop, w_frz, w_sset, w_ife, w_skip, w_brk, w_cont, w_seq, kq_ret, kq_bk, kq_ct, kl_bk, kl_ret, br_b, decide_eq_true_eq, decide_eq_false_iff_not, Bool.not_eq_true', Bool.not_eq_false', reduceCtorEq, true_implies, false_implies, forall_const, not_true_eq_false, not_false_eq_true, and_true, true_and, implies_true, sm_add, sm_addI, sm_addL, sm_addT, sm_cat, sm_sub, sm_mul, sm_div, sm_mod, sm_pow, sm_neg, sm_lt, sm_le, sm_gt, sm_ge, sm_eqI, sm_neI, sm_eqB, sm_neB, sm_isN, sm_isNotN, sm_truI, sm_truB, sm_truN, sm_truL, sm_truT, sm_not, sm_ixL, sm_ixT, sm_at0, sm_at1, sm_at2, sm_lenL, sm_lenT, sm_abs, sm_int, sm_intB, sm_max2, sm_min2, sm_listL, sm_listT, sm_tupL, sm_tupT, sm_seqL, sm_seqT, sm_lsL, sm_rng1, sm_rng2, sm_rng3, sm_app, sm_rep1, sm_set1, sm_setN, sm_setC, sm_mixN, sm_mixC, sm_isi, sm_isi2, sm_item0, sm_item1, sm_iset0, sm_iset1, wipe_n, wipe_c, List.set_cons_zero, List.set_cons_succ, List.getElem?_cons_zero, List.getElem?_cons_succ, List.length_cons, List.length_nil, Nat.zero_le, Bool.false_eq_true, if_true, if_false, Bool.not_true, Bool.not_false, Bool.not_not, kq_nx]
      have m1 : mulOk c 48271 = true := mul_ok hc (Sz.of (by decide) (by decide))
      have m2 : mulOk k 69621 = true := mul_sm
      have sk : Sz 62 k := Sz.of
      have s1 : Sz 1048644 (c * 48271 + k * 69621 + 12345) := by
        have a : Sz (1048580 + 62) (c * 48271) := hc.mul (Sz.of (by decide) (by decide))
        have b : Sz (62 + 62) (k * 69621) := sk.mul (Sz.of (by decide) (by decide))
        have a' : Sz 1048642 (c * 48271) := a
        have b' : Sz 1048642 (k * 69621) := b.mono (by decide)
        have d : Sz 1048643 12345 := (Sz.of (by decide) (by decide)).mono (by decide)
        exact ((Sz.add a' b').add d)
      have m3 : mulOk (c * 48271 + k * 69621 + 12345) 40692 = true := mul_ok s1 (Sz.of (by decide) (by decide))
      have r0 := Int.emod_nonneg ((c * 48271 + k * 69621 + 12345) * 40692 + 7) (show (2147483399 : Int) ≠ 0 by decide)
      have r1 := Int.emod_lt_of_pos ((c * 48271 + k * 69621 + 12345) * 40692 + 7) (show (0 : Int) < 2147483399 by decide)
      have fin2 : ∃ c_1 : Int, Out.ret (PyData.int (((c * 48271 + k * 69621 + 12345) * 40692 + 7) % 2147483399)) none = Out.ret (PyData.int c_1) none ∧ 0 ≤ c_1 ∧ Sz 1048580 c_1 := ⟨_, rfl, r0, (Sz.of (by omega) (by omega)).mono (by decide)⟩
      refine ⟨by decide, fun _ => ⟨fun _ => ⟨c, rfl, h0, hc⟩, fun _ => ⟨m1, m2, m3, by decide, fin2⟩⟩, fun _ => ⟨m1, m2, m3, by decide, fin2⟩⟩
    rw [kq_nx]
    simp only [e_var, e_rd, e_sr, e_cst, e_op1, e_op2, e_op3, e_chain, e_band, e_bor, e_ife, e_anil, e_acons, e_lst, e_tup, e_bi, e_call, e_calls, e_sget, ls_l, gV_sh, gR_sh, gR_br, gR_ow, gS_sh, gS_br, gO_ow, gF_ow, gF_sh, sm_some, w_asg1, w_asg, w_asgO, w_par, w_ret, w_drop, w_aug, w_mut, w_seti, w_augi, w_pop, w_frz, w_sset, w_ife, w_skip, w_brk, w_cont, w_seq, kq_ret, kq_bk, kq_ct, kl_bk, kl_ret, br_b, decide_eq_true_eq, decide_eq_false_iff_not, Bool.not_eq_true', Bool.not_eq_false', reduceCtorEq, true_implies, false_implies, forall_const, not_true_eq_false, not_false_eq_true, and_true, true_and, implies_true, sm_add, sm_addI, sm_addL, sm_addT, sm_cat, sm_sub, sm_mul, sm_div, sm_mod, sm_pow, sm_neg, sm_lt, sm_le, sm_gt, sm_ge, sm_eqI, sm_neI, sm_eqB, sm_neB, sm_isN, sm_isNotN, sm_truI, sm_truB, sm_truN, sm_truL, sm_truT, sm_not, sm_ixL, sm_ixT, sm_at0, sm_at1, sm_at2, sm_lenL, sm_lenT, sm_abs, sm_int, sm_intB, sm_max2, sm_min2, sm_listL, sm_listT, sm_tupL, sm_tupT, sm_seqL, sm_seqT, sm_lsL, sm_rng1, sm_rng2, sm_rng3, sm_app, sm_rep1, sm_set1, sm_setN, sm_setC, sm_mixN, sm_mixC, sm_isi, sm_isi2, sm_item0, sm_item1, sm_iset0, sm_iset1, wipe_n, wipe_c, List.set_cons_zero, List.set_cons_succ, List.getElem?_cons_zero, List.getElem?_cons_succ, List.length_cons, List.length_nil, Nat.zero_le, Bool.false_eq_true, if_true, if_false, Bool.not_true, Bool.not_false, Bool.not_not]
    constructor
    · intro hn
      refine ⟨mul_ok (k := 2) (by unfold Sz; decide) hc, fin _ (by omega) big⟩
    · intro hn
      exact fin _ (by omega) (hc.mono (by decide))
noncomputable def fs__law_refill : List D → Option D := FV 2 3 z__law_refill
theorem sm__law_refill {S : List D} (hS : Scr S) {k : Int} (hk : 0 ≤ k) (hk' : k < 4611686018427387904) {Q : D → Prop} (q : ∀ c, 0 ≤ c → Sz 1048580 c → Q (.int c)) : Sm (fs__law_refill [.list S, .int k]) Q :=
  FV.sm rfl ((w__law_refill hS hk hk').mono fun o ⟨c, e, h0, h1⟩ => ⟨_, _, e, q c h0 h1⟩)
noncomputable def fs__law_draw : D → List D → Option (D × D) := FVs 3 4 (z__law_draw fs__law_refill)
theorem sm__law_draw {S : List D} (hS : Scr S) {b : Nat} {t : D} (ht : GoodT (b + 1) t) {m : Int} (hm : 0 < m) (hm' : m < 4611686018427387904) {Q : D × D → Prop} (q : ∀ d t', 0 ≤ d → d < m → GoodT b t' → Q (.int d, t')) : Sm (fs__law_draw t [.list S, .int m]) Q := by
  refine FVs.sm rfl ?_
  show W (z__law_draw fs__law_refill) [.st, .br (.list S), .sh (.int m), .no] (some t) _
  obtain ⟨k, v, rfl, h0, h1, h2, h3⟩ := ht
  unfold z__law_draw
  have fin : ∀ k v : Int, 0 ≤ k → k + b < 2305843009213693952 → 0 ≤ v → Sz 1048580 v → W (.seq (.asg (.one 3) (.op2 dMod (.bi dInt (.acons (.sget 0 1) .anil)) (.rd 2))) 
  (.seq (.sset 0 1 (.op2 dDiv (.sget 0 1) (.rd 2))) 
  (.ret (.var 3)))) [.st, .br (.list S), .sh (.int m), .no] (some (.list [.int k, .int v])) (fun o => ∃ r t', o = .ret r (some t') ∧ Q (r, t')) := by
    intro k v h0 h1 h2 h3
    simp only [e_var, e_rd, e_sr, e_cst, e_op1, e_op2, e_op3, e_chain, e_band, e_bor, e_ife, e_anil, e_acons, e_lst, e_tup, e_bi, e_call, e_calls, e_sget, ls_l, gV_sh, gR_sh, gR_br, gR_ow, gS_sh, gS_br, gO_ow, gF_ow, gF_sh, sm_some, w_asg1, w_asg, w_asgO, w_par, w_ret, w_drop, w_aug, w_mut, w_seti, w_augi, w_pop, w_frz, w_sset, w_ife, w_skip, w_brk, w_cont, w_seq, kq_ret, kq_bk, kq_ct, kl_bk, kl_ret, br_b, decide_eq_true_eq, decide_eq_false_iff_not, Bool.not_eq_true', Bool.not_eq_false', reduceCtorEq, true_implies, false_implies, forall_const, not_true_eq_false, not_false_eq_true, and_true, true_and, implies_true, sm_add, sm_addI, sm_addL, sm_addT, sm_cat, sm_sub, sm_mul, sm_div, sm_mod, sm_pow, sm_neg, sm_lt, sm_le, sm_gt, sm_ge, sm_eqI, sm_neI, sm_eqB, sm_neB, sm_isN, sm_isNotN, sm_truI, sm_truB, sm_truN, sm_truL, sm_truT, sm_not, sm_ixL, sm_ixT, sm_at0, sm_at1, sm_at2, sm_lenL, sm_lenT, sm_abs, sm_int, sm_intB, sm_max2, sm_min2, sm_listL, sm_listT, sm_tupL, sm_tupT, sm_seqL, sm_seqT, sm_lsL, sm_rng1, sm_rng2, sm_rng3, sm_app, sm_rep1, sm_set1, sm_setN, sm_setC, sm_mixN, sm_mixC, sm_isi, sm_isi2, sm_item0, sm_item1, sm_iset0, sm_iset1, wipe_n, wipe_c, List.set_cons_zero, List.set_cons_succ, List.getElem?_cons_zero, List.getElem?_cons_succ, List.length_cons, List.length_nil, Nat.zero_le, Bool.false_eq_true, if_true, if_false, Bool.not_true, Bool.not_false, Bool.not_not, kq_nx]
    exact ⟨hm, div_ok hm (Sz.of (by omega) (by omega)), _, _, rfl, q _ _ (Int.emod_nonneg _ (by omega)) (Int.emod_lt_of_pos _ hm) ⟨_, _, rfl, h0, h1, Int.ediv_nonneg h2 (by omega), h3.div h2 hm⟩⟩
  simp only [e_var, e_rd, e_sr, e_cst, e_op1, e_op2, e_op3, e_chain, e_band, e_bor, e_ife, e_anil, e_acons, e_lst, e_tup, e_bi, e_call, e_calls, e_sget, ls_l, gV_sh, gR_sh, gR_br, gR_ow, gS_sh, gS_br, gO_ow, gF_ow, gF_sh, sm_some, w_asg1, w_asg, w_asgO, w_par, w_ret, w_drop, w_aug, w_mut, w_seti, w_augi, w_pop, w_frz, w_sset, w_ife, w_skip, w_brk, w_cont, w_seq, kq_ret, kq_bk, kq_ct, kl_bk, kl_ret, br_b, decide_eq_true_eq, decide_eq_false_iff_not, Bool.not_eq_true', Bool.not_eq_false', reduceCtorEq, true_implies, false_implies, forall_const, not_true_eq_false, not_false_eq_true, and_true, true_and, implies_true, sm_add, sm_addI, sm_addL, sm_addT, sm_cat, sm_sub, sm_mul, sm_div, sm_mod, sm_pow, sm_neg, sm_lt, sm_le, sm_gt, sm_ge, sm_eqI, sm_neI, sm_eqB, sm_neB, sm_isN, sm_isNotN, sm_truI, sm_truB, sm_truN, sm_truL, sm_truT, sm_not, sm_ixL, sm_ixT, sm_at0, sm_at1, sm_at2, sm_lenL, sm_lenT, sm_abs, sm_int, sm_intB, sm_max2, sm_min2, sm_listL, sm_listT, sm_tupL, sm_tupT, sm_seqL, sm_seqT, sm_lsL, sm_rng1, sm_rng2, sm_rng3, sm_app, sm_rep1, sm_set1, sm_setN, sm_setC, sm_mixN, sm_mixC, sm_isi, sm_isi2, sm_item0, sm_item1, sm_iset0, sm_iset1, wipe_n, wipe_c, List.set_cons_zero, List.set_cons_succ, List.getElem?_cons_zero, List.getElem?_cons_succ, List.length_cons, List.length_nil, Nat.zero_le, Bool.false_eq_true, if_true, if_false, Bool.not_true, Bool.not_false, Bool.not_not]
  refine ⟨fun hv => ?_, fun hv => ?_⟩
  · refine sm__law_refill hS h0 (by omega) fun c hc hs => ?_
    simp only [e_var, e_rd, e_sr, e_cst, e_op1, e_op2, e_op3, e_chain, e_band, e_bor, e_ife, e_anil, e_acons, e_lst, e_tup, e_bi, e_call, e_calls, e_sget, ls_l, gV_sh, gR_sh, gR_br, gR_ow, gS_sh, gS_br, gO_ow, gF_ow, gF_sh, sm_some, w_asg1, w_asg, w_asgO, w_par, w_ret, w_drop, w_aug, w_mut, w_seti, w_augi, w_pop, w_frz, w_sset, w_ife, w_skip, w_brk, w_cont, w_seq, kq_ret, kq_bk, kq_ct, kl_bk, kl_ret, br_b, decide_eq_true_eq, decide_eq_false_iff_not, Bool.not_eq_true', Bool.not_eq_false', reduceCtorEq, true_implies, false_implies, forall_const, not_true_eq_false, not_false_eq_true, and_true, true_and, implies_true, sm_add, sm_addI, sm_addL, sm_addT, sm_cat, sm_sub, sm_mul, sm_div, sm_mod, sm_pow, sm_neg, sm_lt, sm_le, sm_gt, sm_ge, sm_eqI, sm_neI, sm_eqB, sm_neB, sm_isN, sm_isNotN, sm_truI, sm_truB, sm_truN, sm_truL, sm_truT, sm_not, sm_ixL, sm_ixT, sm_at0, sm_at1, sm_at2, sm_lenL, sm_lenT, sm_abs, sm_int, sm_intB, sm_max2, sm_min2, sm_listL, sm_listT, sm_tupL, sm_tupT, sm_seqL, sm_seqT, sm_lsL, sm_rng1, sm_rng2, sm_rng3, sm_app, sm_rep1, sm_set1, sm_setN, sm_setC, sm_mixN, sm_mixC, sm_isi, sm_isi2, sm_item0, sm_item1, sm_iset0, sm_iset1, wipe_n, wipe_c, List.set_cons_zero, List.set_cons_succ, List.getElem?_cons_zero, List.getElem?_cons_succ, List.length_cons, List.length_nil, Nat.zero_le, Bool.false_eq_true, if_true, if_false, Bool.not_true, Bool.not_false, Bool.not_not]
    rw [kq_nx]
    simp only [e_var, e_rd, e_sr, e_cst, e_op1, e_op2, e_op3, e_chain, e_band, e_bor, e_ife, e_anil, e_acons, e_lst, e_tup, e_bi, e_call, e_calls, e_sget, ls_l, gV_sh, gR_sh, gR_br, gR_ow, gS_sh, gS_br, gO_ow, gF_ow, gF_sh, sm_some, w_asg1, w_asg, w_asgO, w_par, w_ret, w_drop, w_aug, w_mut, w_seti, w_augi, w_pop, w_frz, w_sset, w_ife, w_skip, w_brk, w_cont, w_seq, kq_ret, kq_bk, kq_ct, kl_bk, kl_ret, br_b, decide_eq_true_eq, decide_eq_false_iff_not, Bool.not_eq_true', Bool.not_eq_false', reduceCtorEq, true_implies, false_implies, forall_const, not_true_eq_false, not_false_eq_true, and_true, true_and, implies_true, sm_add, sm_addI, sm_addL, sm_addT, sm_cat, sm_sub, sm_mul, sm_div, sm_mod, sm_pow, sm_neg, sm_lt, sm_le, sm_gt, sm_ge, sm_eqI, sm_neI, sm_eqB, sm_neB, sm_isN, sm_isNotN, sm_truI, sm_truB, sm_truN, sm_truL, sm_truT, sm_not, sm_ixL, sm_ixT, sm_at0, sm_at1, sm_at2, sm_lenL, sm_lenT, sm_abs, sm_int, sm_intB, sm_max2, sm_min2, sm_listL, sm_listT, sm_tupL, sm_tupT, sm_seqL, sm_seqT, sm_lsL, sm_rng1, sm_rng2, sm_rng3, sm_app, sm_rep1, sm_set1, sm_setN, sm_setC, sm_mixN, sm_mixC, sm_isi, sm_isi2, sm_item0, sm_item1, sm_iset0, sm_iset1, wipe_n, wipe_c, List.set_cons_zero, List.set_cons_succ, List.getElem?_cons_zero, List.getElem?_cons_succ, List.length_cons, List.length_nil, Nat.zero_le, Bool.false_eq_true, if_true, if_false, Bool.not_true, Bool.not_false, Bool.not_not]
    exact fin (k + 1) c (by omega) (by omega) hc hs
  · exact fin k v h0 (by omega) h2 h3

theorem sm_draw {S : List D} (hS : Scr S) {b : Nat} {t : D} (ht : GoodT (b + 1) t) {m : Int} {Q : D × D → Prop} (q : ∀ (d : Nat) t', (d : Int) < m → GoodT b t' → Q (.int d, t')) (hm : 0 < m := by decide) (hm' : m < 4611686018427387904 := by decide) : Sm (fs__law_draw t [.list S, .int m]) Q :=
  sm__law_draw hS ht hm hm' fun d t' h0 h1 h2 => by
    obtain ⟨n, rfl⟩ := Int.eq_ofNat_of_zero_le h0
    exact q n t' h1 h2

/-! ### exactness -/
def XOk : Nat → D → Prop
  | _, .none => True
  | _, .bool _ => True
  | _, .int _ => True
  | n + 1, .list ts => ts.length < 16777216 ∧ ∀ t ∈ ts, XOk n t
  | n + 1, .tuple ts => ts.length < 16777216 ∧ ∀ t ∈ ts, XOk n t
  | _, _ => False
theorem XOk.int {n : Nat} {i : Int} : XOk n (.int i) := by cases n <;> trivial
theorem XOk.bool {n : Nat} {i : Bool} : XOk n (.bool i) := by cases n <;> trivial
theorem XOk.none {n : Nat} : XOk n .none := by cases n <;> trivial
theorem XOk.list {n : Nat} {ts : List D} (h : ts.length < 16777216) (q : ∀ t ∈ ts, XOk n t) : XOk (n + 1) (.list ts) := ⟨h, q⟩
theorem XOk.tuple {n : Nat} {ts : List D} (h : ts.length < 16777216) (q : ∀ t ∈ ts, XOk n t) : XOk (n + 1) (.tuple ts) := ⟨h, q⟩
noncomputable def fEx : Nat → List D → Option D
  | 0 => fun _ => none
  | n + 1 => FV 2 4 (z__law_exact (fEx n))
theorem w_exact_all {f : List D → Option D} {ts : List D} {T : D} (hT : T = .list ts ∨ T = .tuple ts) (hl : ts.length < 16777216) (h : ∀ t ∈ ts, ∀ Q : D → Prop, Q (.bool true) → Sm (f [t, t]) Q) {s : Sl} (hs : gR (some s) = some T) {Q : D → SD → Prop} (q : Q (.bool true) none) :
    E (.bi dAllB (.acons (.comp [3] (.one 3) (.bi dRng1 (.acons (.bi dLen (.acons (.rd 0) .anil)) .anil)) (.cst (.bool true)) (.call f (.acons (.op2 dIx (.rd 0) (.rd 3)) (.acons (.op2 dIx (.rd 1) (.rd 3)) .anil)))) .anil)) [s, s, .no, .no] none Q := by
  have hd : ∀ {Q : D → Prop}, Sm (dLen [T]) Q ↔ Q (.int ts.length) := by rcases hT with rfl | rfl <;> exact sm_some
  have hx : ∀ {i : Int} {Q : D → Prop}, Sm (dIx T (.int i)) Q ↔ Sm (atI ts i) Q := by rcases hT with rfl | rfl <;> exact Iff.rfl
  simp only [e_var, e_rd, e_sr, e_cst, e_op1, e_op2, e_op3, e_chain, e_band, e_bor, e_ife, e_anil, e_acons, e_lst, e_tup, e_bi, e_call, e_calls, e_sget, ls_l, gV_sh, gR_sh, gR_br, gR_ow, gS_sh, gS_br, gO_ow, gF_ow, gF_sh, sm_some, w_asg1, w_asg, w_asgO, w_par, w_ret, w_drop, w_aug, w_mut, w_seti, w_augi, w_pop, w_frz, w_sset, w_ife, w_skip, w_brk, w_cont, w_seq, kq_ret, kq_bk, kq_ct, kl_bk, kl_ret, br_b, decide_eq_true_eq, decide_eq_false_iff_not, Bool.not_eq_true', Bool.not_eq_false', reduceCtorEq, true_implies, false_implies, forall_const, not_true_eq_false, not_false_eq_true, and_true, true_and, implies_true, sm_add, sm_addI, sm_addL, sm_addT, sm_cat, sm_sub, sm_mul, sm_div, sm_mod, sm_pow, sm_neg, sm_lt, sm_le, sm_gt, sm_ge, sm_eqI, sm_neI, sm_eqB, sm_neB, sm_isN, sm_isNotN, sm_truI, sm_truB, sm_truN, sm_truL, sm_truT, sm_not, sm_ixL, sm_ixT, sm_at0, sm_at1, sm_at2, sm_lenL, sm_lenT, sm_abs, sm_int, sm_intB, sm_max2, sm_min2, sm_listL, sm_listT, sm_tupL, sm_tupT, sm_seqL, sm_seqT, sm_lsL, sm_rng1, sm_rng2, sm_rng3, sm_app, sm_rep1, sm_set1, sm_setN, sm_setC, sm_mixN, sm_mixC, sm_isi, sm_isi2, sm_item0, sm_item1, sm_iset0, sm_iset1, wipe_n, wipe_c, List.set_cons_zero, List.set_cons_succ, List.getElem?_cons_zero, List.getElem?_cons_succ, List.length_cons, List.length_nil, Nat.zero_le, Bool.false_eq_true, if_true, if_false, Bool.not_true, Bool.not_false, Bool.not_not]
  refine e_comp_of (fun _ => true) (fun _ => .bool true) ?_
  simp only [e_var, e_rd, e_sr, e_cst, e_op1, e_op2, e_op3, e_chain, e_band, e_bor, e_ife, e_anil, e_acons, e_lst, e_tup, e_bi, e_call, e_calls, e_sget, ls_l, gV_sh, gR_sh, gR_br, gR_ow, gS_sh, gS_br, gO_ow, gF_ow, gF_sh, sm_some, w_asg1, w_asg, w_asgO, w_par, w_ret, w_drop, w_aug, w_mut, w_seti, w_augi, w_pop, w_frz, w_sset, w_ife, w_skip, w_brk, w_cont, w_seq, kq_ret, kq_bk, kq_ct, kl_bk, kl_ret, br_b, decide_eq_true_eq, decide_eq_false_iff_not, Bool.not_eq_true', Bool.not_eq_false', reduceCtorEq, true_implies, false_implies, forall_const, not_true_eq_false, not_false_eq_true, and_true, true_and, implies_true, sm_add, sm_addI, sm_addL, sm_addT, sm_cat, sm_sub, sm_mul, sm_div, sm_mod, sm_pow, sm_neg, sm_lt, sm_le, sm_gt, sm_ge, sm_eqI, sm_neI, sm_eqB, sm_neB, sm_isN, sm_isNotN, sm_truI, sm_truB, sm_truN, sm_truL, sm_truT, sm_not, sm_ixL, sm_ixT, sm_at0, sm_at1, sm_at2, sm_lenL, sm_lenT, sm_abs, sm_int, sm_intB, sm_max2, sm_min2, sm_listL, sm_listT, sm_tupL, sm_tupT, sm_seqL, sm_seqT, sm_lsL, sm_rng1, sm_rng2, sm_rng3, sm_app, sm_rep1, sm_set1, sm_setN, sm_setC, sm_mixN, sm_mixC, sm_isi, sm_isi2, sm_item0, sm_item1, sm_iset0, sm_iset1, wipe_n, wipe_c, List.set_cons_zero, List.set_cons_succ, List.getElem?_cons_zero, List.getElem?_cons_succ, List.length_cons, List.length_nil, Nat.zero_le, Bool.false_eq_true, if_true, if_false, Bool.not_true, Bool.not_false, Bool.not_not, hs, hd]
  refine ⟨by omega, ?_, ?_, ?_⟩
  · unfold rngD; simp; omega
  · intro t ht
    unfold rngD at ht
    obtain ⟨i, hi, rfl⟩ := List.mem_map.mp ht
    have hi' : i < ts.length := by have := List.mem_range.mp hi; omega
    simp only [e_var, e_rd, e_sr, e_cst, e_op1, e_op2, e_op3, e_chain, e_band, e_bor, e_ife, e_anil, e_acons, e_lst, e_tup, e_bi, e_call, e_calls, e_sget, ls_l, gV_sh, gR_sh, gR_br, gR_ow, gS_sh, gS_br, gO_ow, gF_ow, gF_sh, sm_some, w_asg1, w_asg, w_asgO, w_par, w_ret, w_drop, w_aug, w_mut, w_seti, w_augi, w_pop, w_frz, w_sset, w_ife, w_skip, w_brk, w_cont, w_seq, kq_ret, kq_bk, kq_ct, kl_bk, kl_ret, br_b, decide_eq_true_eq, decide_eq_false_iff_not, Bool.not_eq_true', Bool.not_eq_false', reduceCtorEq, true_implies, false_implies, forall_const, not_true_eq_false, not_false_eq_true, and_true, true_and, implies_true, sm_add, sm_addI, sm_addL, sm_addT, sm_cat, sm_sub, sm_mul, sm_div, sm_mod, sm_pow, sm_neg, sm_lt, sm_le, sm_gt, sm_ge, sm_eqI, sm_neI, sm_eqB, sm_neB, sm_isN, sm_isNotN, sm_truI, sm_truB, sm_truN, sm_truL, sm_truT, sm_not, sm_ixL, sm_ixT, sm_at0, sm_at1, sm_at2, sm_lenL, sm_lenT, sm_abs, sm_int, sm_intB, sm_max2, sm_min2, sm_listL, sm_listT, sm_tupL, sm_tupT, sm_seqL, sm_seqT, sm_lsL, sm_rng1, sm_rng2, sm_rng3, sm_app, sm_rep1, sm_set1, sm_setN, sm_setC, sm_mixN, sm_mixC, sm_isi, sm_isi2, sm_item0, sm_item1, sm_iset0, sm_iset1, wipe_n, wipe_c, List.set_cons_zero, List.set_cons_succ, List.getElem?_cons_zero, List.getElem?_cons_succ, List.length_cons, List.length_nil, Nat.zero_le, Bool.false_eq_true, if_true, if_false, Bool.not_true, Bool.not_false, Bool.not_not, hs, hx]
    rw [Int.zero_add]
    refine sm_at (by omega) (by rw [Int.toNat_natCast]; exact List.getElem?_eq_getElem hi') ?_
    refine sm_at (by omega) (by rw [Int.toNat_natCast]; exact List.getElem?_eq_getElem hi') ?_
    exact h _ (List.getElem_mem hi') _ rfl
  · refine sm_allT ?_ q
    intro x hx
    obtain ⟨_, _, rfl⟩ := List.mem_map.mp hx
    rfl
theorem sm_fEx : ∀ (n : Nat) (a : D), XOk n a → ∀ Q : D → Prop, Q (.bool true) → Sm (fEx (n + 1) [a, a]) Q := by
  intro n
  induction n with
  | zero =>
    intro a ha Q q
    rw [fEx]
    refine FV.sm1 (r := .bool true) (st := none) rfl ?_ q
    cases a with
    | list => exact ha.elim
    | tuple => exact ha.elim
    | str => exact ha.elim
    | dict => exact ha.elim
    | none =>
      show W (z__law_exact _) [.sh .none, .sh .none, .no, .no] none _
      unfold z__law_exact
      simp only [e_var, e_rd, e_sr, e_cst, e_op1, e_op2, e_op3, e_chain, e_band, e_bor, e_ife, e_anil, e_acons, e_lst, e_tup, e_bi, e_call, e_calls, e_sget, ls_l, gV_sh, gR_sh, gR_br, gR_ow, gS_sh, gS_br, gO_ow, gF_ow, gF_sh, sm_some, w_asg1, w_asg, w_asgO, w_par, w_ret, w_drop, w_aug, w_mut, w_seti, w_augi, w_pop, w_frz, w_sset, w_ife, w_skip, w_brk, w_cont, w_seq, kq_ret, kq_bk, kq_ct, kl_bk, kl_ret, br_b, decide_eq_true_eq, decide_eq_false_iff_not, Bool.not_eq_true', Bool.not_eq_false', reduceCtorEq, true_implies, false_implies, forall_const, not_true_eq_false, not_false_eq_true, and_true, true_and, implies_true, sm_add, sm_addI, sm_addL, sm_addT, sm_cat, sm_sub, sm_mul, sm_div, sm_mod, sm_pow, sm_neg, sm_lt, sm_le, sm_gt, sm_ge, sm_eqI, sm_neI, sm_eqB, sm_neB, sm_isN, sm_isNotN, sm_truI, sm_truB, sm_truN, sm_truL, sm_truT, sm_not, sm_ixL, sm_ixT, sm_at0, sm_at1, sm_at2, sm_lenL, sm_lenT, sm_abs, sm_int, sm_intB, sm_max2, sm_min2, sm_listL, sm_listT, sm_tupL, sm_tupT, sm_seqL, sm_seqT, sm_lsL, sm_rng1, sm_rng2, sm_rng3, sm_app, sm_rep1, sm_set1, sm_setN, sm_setC, sm_mixN, sm_mixC, sm_isi, sm_isi2, sm_item0, sm_item1, sm_iset0, sm_iset1, wipe_n, wipe_c, List.set_cons_zero, List.set_cons_succ, List.getElem?_cons_zero, List.getElem?_cons_succ, List.length_cons, List.length_nil, Nat.zero_le, Bool.false_eq_true, if_true, if_false, Bool.not_true, Bool.not_false, Bool.not_not, kq_nx, tyD, isNn]
      simp [isiB]
    | bool b =>
      show W (z__law_exact _) [.sh (.bool b), .sh (.bool b), .no, .no] none _
      unfold z__law_exact
      simp only [e_var, e_rd, e_sr, e_cst, e_op1, e_op2, e_op3, e_chain, e_band, e_bor, e_ife, e_anil, e_acons, e_lst, e_tup, e_bi, e_call, e_calls, e_sget, ls_l, gV_sh, gR_sh, gR_br, gR_ow, gS_sh, gS_br, gO_ow, gF_ow, gF_sh, sm_some, w_asg1, w_asg, w_asgO, w_par, w_ret, w_drop, w_aug, w_mut, w_seti, w_augi, w_pop, w_frz, w_sset, w_ife, w_skip, w_brk, w_cont, w_seq, kq_ret, kq_bk, kq_ct, kl_bk, kl_ret, br_b, decide_eq_true_eq, decide_eq_false_iff_not, Bool.not_eq_true', Bool.not_eq_false', reduceCtorEq, true_implies, false_implies, forall_const, not_true_eq_false, not_false_eq_true, and_true, true_and, implies_true, sm_add, sm_addI, sm_addL, sm_addT, sm_cat, sm_sub, sm_mul, sm_div, sm_mod, sm_pow, sm_neg, sm_lt, sm_le, sm_gt, sm_ge, sm_eqI, sm_neI, sm_eqB, sm_neB, sm_isN, sm_isNotN, sm_truI, sm_truB, sm_truN, sm_truL, sm_truT, sm_not, sm_ixL, sm_ixT, sm_at0, sm_at1, sm_at2, sm_lenL, sm_lenT, sm_abs, sm_int, sm_intB, sm_max2, sm_min2, sm_listL, sm_listT, sm_tupL, sm_tupT, sm_seqL, sm_seqT, sm_lsL, sm_rng1, sm_rng2, sm_rng3, sm_app, sm_rep1, sm_set1, sm_setN, sm_setC, sm_mixN, sm_mixC, sm_isi, sm_isi2, sm_item0, sm_item1, sm_iset0, sm_iset1, wipe_n, wipe_c, List.set_cons_zero, List.set_cons_succ, List.getElem?_cons_zero, List.getElem?_cons_succ, List.length_cons, List.length_nil, Nat.zero_le, Bool.false_eq_true, if_true, if_false, Bool.not_true, Bool.not_false, Bool.not_not, kq_nx, tyD, isNn]
      simp [isiB]
    | int i =>
      show W (z__law_exact _) [.sh (.int i), .sh (.int i), .no, .no] none _
      unfold z__law_exact
      simp only [e_var, e_rd, e_sr, e_cst, e_op1, e_op2, e_op3, e_chain, e_band, e_bor, e_ife, e_anil, e_acons, e_lst, e_tup, e_bi, e_call, e_calls, e_sget, ls_l, gV_sh, gR_sh, gR_br, gR_ow, gS_sh, gS_br, gO_ow, gF_ow, gF_sh, sm_some, w_asg1, w_asg, w_asgO, w_par, w_ret, w_drop, w_aug, w_mut, w_seti, w_augi, w_pop, w_frz, w_sset, w_ife, w_skip, w_brk, w_cont, w_seq, kq_ret, kq_bk, kq_ct, kl_bk, kl_ret, br_b, decide_eq_true_eq, decide_eq_false_iff_not, Bool.not_eq_true', Bool.not_eq_false', reduceCtorEq, true_implies, false_implies, forall_const, not_true_eq_false, not_false_eq_true, and_true, true_and, implies_true, sm_add, sm_addI, sm_addL, sm_addT, sm_cat, sm_sub, sm_mul, sm_div, sm_mod, sm_pow, sm_neg, sm_lt, sm_le, sm_gt, sm_ge, sm_eqI, sm_neI, sm_eqB, sm_neB, sm_isN, sm_isNotN, sm_truI, sm_truB, sm_truN, sm_truL, sm_truT, sm_not, sm_ixL, sm_ixT, sm_at0, sm_at1, sm_at2, sm_lenL, sm_lenT, sm_abs, sm_int, sm_intB, sm_max2, sm_min2, sm_listL, sm_listT, sm_tupL, sm_tupT, sm_seqL, sm_seqT, sm_lsL, sm_rng1, sm_rng2, sm_rng3, sm_app, sm_rep1, sm_set1, sm_setN, sm_setC, sm_mixN, sm_mixC, sm_isi, sm_isi2, sm_item0, sm_item1, sm_iset0, sm_iset1, wipe_n, wipe_c, List.set_cons_zero, List.set_cons_succ, List.getElem?_cons_zero, List.getElem?_cons_succ, List.length_cons, List.length_nil, Nat.zero_le, Bool.false_eq_true, if_true, if_false, Bool.not_true, Bool.not_false, Bool.not_not, kq_nx, tyD, isNn]
      simp [isiB]
  | succ n ih =>
    intro a ha Q q
    rw [fEx]
    refine FV.sm1 (r := .bool true) (st := none) rfl ?_ q
    cases a with
    | list ts =>
      show W (z__law_exact _) [.br (.list ts), .br (.list ts), .no, .no] none _
      unfold z__law_exact
      simp only [e_var, e_rd, e_sr, e_cst, e_op1, e_op2, e_op3, e_chain, e_band, e_bor, e_ife, e_anil, e_acons, e_lst, e_tup, e_bi, e_call, e_calls, e_sget, ls_l, gV_sh, gR_sh, gR_br, gR_ow, gS_sh, gS_br, gO_ow, gF_ow, gF_sh, sm_some, w_asg1, w_asg, w_asgO, w_par, w_ret, w_drop, w_aug, w_mut, w_seti, w_augi, w_pop, w_frz, w_sset, w_ife, w_skip, w_brk, w_cont, w_seq, kq_ret, kq_bk, kq_ct, kl_bk, kl_ret, br_b, decide_eq_true_eq, decide_eq_false_iff_not, Bool.not_eq_true', Bool.not_eq_false', reduceCtorEq, true_implies, false_implies, forall_const, not_true_eq_false, not_false_eq_true, and_true, true_and, implies_true, sm_add, sm_addI, sm_addL, sm_addT, sm_cat, sm_sub, sm_mul, sm_div, sm_mod, sm_pow, sm_neg, sm_lt, sm_le, sm_gt, sm_ge, sm_eqI, sm_neI, sm_eqB, sm_neB, sm_isN, sm_isNotN, sm_truI, sm_truB, sm_truN, sm_truL, sm_truT, sm_not, sm_ixL, sm_ixT, sm_at0, sm_at1, sm_at2, sm_lenL, sm_lenT, sm_abs, sm_int, sm_intB, sm_max2, sm_min2, sm_listL, sm_listT, sm_tupL, sm_tupT, sm_seqL, sm_seqT, sm_lsL, sm_rng1, sm_rng2, sm_rng3, sm_app, sm_rep1, sm_set1, sm_setN, sm_setC, sm_mixN, sm_mixC, sm_isi, sm_isi2, sm_item0, sm_item1, sm_iset0, sm_iset1, wipe_n, wipe_c, List.set_cons_zero, List.set_cons_succ, List.getElem?_cons_zero, List.getElem?_cons_succ, List.length_cons, List.length_nil, Nat.zero_le, Bool.false_eq_true, if_true, if_false, Bool.not_true, Bool.not_false, Bool.not_not, kq_nx, tyD, isNn]
      refine ⟨fun _ => ⟨fun h => by simp [isiB] at h, fun _ => ⟨fun h => by simp [isiB] at h, fun _ => ?_⟩⟩, fun h => by simp [isiB] at h⟩
      have h := w_exact_all (.inl rfl) ha.1 (fun t ht Q q => ih t (ha.2 t ht) Q q) (s := .br (.list ts)) rfl (Q := fun d s => Out.ret d s = Out.ret (.bool true) none) rfl
      simp only [e_var, e_rd, e_sr, e_cst, e_op1, e_op2, e_op3, e_chain, e_band, e_bor, e_ife, e_anil, e_acons, e_lst, e_tup, e_bi, e_call, e_calls, e_sget, ls_l, gV_sh, gR_sh, gR_br, gR_ow, gS_sh, gS_br, gO_ow, gF_ow, gF_sh, sm_some, w_asg1, w_asg, w_asgO, w_par, w_ret, w_drop, w_aug, w_mut, w_seti, w_augi, w_pop, w_frz, w_sset, w_ife, w_skip, w_brk, w_cont, w_seq, kq_ret, kq_bk, kq_ct, kl_bk, kl_ret, br_b, decide_eq_true_eq, decide_eq_false_iff_not, Bool.not_eq_true', Bool.not_eq_false', reduceCtorEq, true_implies, false_implies, forall_const, not_true_eq_false, not_false_eq_true, and_true, true_and, implies_true, sm_add, sm_addI, sm_addL, sm_addT, sm_cat, sm_sub, sm_mul, sm_div, sm_mod, sm_pow, sm_neg, sm_lt, sm_le, sm_gt, sm_ge, sm_eqI, sm_neI, sm_eqB, sm_neB, sm_isN, sm_isNotN, sm_truI, sm_truB, sm_truN, sm_truL, sm_truT, sm_not, sm_ixL, sm_ixT, sm_at0, sm_at1, sm_at2, sm_lenL, sm_lenT, sm_abs, sm_int, sm_intB, sm_max2, sm_min2, sm_listL, sm_listT, sm_tupL, sm_tupT, sm_seqL, sm_seqT, sm_lsL, sm_rng1, sm_rng2, sm_rng3, sm_app, sm_rep1, sm_set1, sm_setN, sm_setC, sm_mixN, sm_mixC, sm_isi, sm_isi2, sm_item0, sm_item1, sm_iset0, sm_iset1, wipe_n, wipe_c, List.set_cons_zero, List.set_cons_succ, List.getElem?_cons_zero, List.getElem?_cons_succ, List.length_cons, List.length_nil, Nat.zero_le, Bool.false_eq_true, if_true, if_false, Bool.not_true, Bool.not_false, Bool.not_not] at h
      exact h
    | tuple ts =>
      show W (z__law_exact _) [.sh (.tuple ts), .sh (.tuple ts), .no, .no] none _
      unfold z__law_exact
      simp only [e_var, e_rd, e_sr, e_cst, e_op1, e_op2, e_op3, e_chain, e_band, e_bor, e_ife, e_anil, e_acons, e_lst, e_tup, e_bi, e_call, e_calls, e_sget, ls_l, gV_sh, gR_sh, gR_br, gR_ow, gS_sh, gS_br, gO_ow, gF_ow, gF_sh, sm_some, w_asg1, w_asg, w_asgO, w_par, w_ret, w_drop, w_aug, w_mut, w_seti, w_augi, w_pop, w_frz, w_sset, w_ife, w_skip, w_brk, w_cont, w_seq, kq_ret, kq_bk, kq_ct, kl_bk, kl_ret, br_b, decide_eq_true_eq, decide_eq_false_iff_not, Bool.not_eq_true', Bool.not_eq_false', reduceCtorEq, true_implies, false_implies, forall_const, not_true_eq_false, not_false_eq_true, and_true, true_and, implies_true, sm_add, sm_addI, sm_addL, sm_addT, sm_cat, sm_sub, sm_mul, sm_div, sm_mod, sm_pow, sm_neg, sm_lt, sm_le, sm_gt, sm_ge, sm_eqI, sm_neI, sm_eqB, sm_neB, sm_isN, sm_isNotN, sm_truI, sm_truB, sm_truN, sm_truL, sm_truT, sm_not, sm_ixL, sm_ixT, sm_at0, sm_at1, sm_at2, sm_lenL, sm_lenT, sm_abs, sm_int, sm_intB, sm_max2, sm_min2, sm_listL, sm_listT, sm_tupL, sm_tupT, sm_seqL, sm_seqT, sm_lsL, sm_rng1, sm_rng2, sm_rng3, sm_app, sm_rep1, sm_set1, sm_setN, sm_setC, sm_mixN, sm_mixC, sm_isi, sm_isi2, sm_item0, sm_item1, sm_iset0, sm_iset1, wipe_n, wipe_c, List.set_cons_zero, List.set_cons_succ, List.getElem?_cons_zero, List.getElem?_cons_succ, List.length_cons, List.length_nil, Nat.zero_le, Bool.false_eq_true, if_true, if_false, Bool.not_true, Bool.not_false, Bool.not_not, kq_nx, tyD, isNn]
      refine ⟨fun _ => ⟨fun h => by simp [isiB] at h, fun _ => ⟨fun h => by simp [isiB] at h, fun _ => ?_⟩⟩, fun h => by simp [isiB] at h⟩
      have h := w_exact_all (.inr rfl) ha.1 (fun t ht Q q => ih t (ha.2 t ht) Q q) (s := .sh (.tuple ts)) rfl (Q := fun d s => Out.ret d s = Out.ret (.bool true) none) rfl
      simp only [e_var, e_rd, e_sr, e_cst, e_op1, e_op2, e_op3, e_chain, e_band, e_bor, e_ife, e_anil, e_acons, e_lst, e_tup, e_bi, e_call, e_calls, e_sget, ls_l, gV_sh, gR_sh, gR_br, gR_ow, gS_sh, gS_br, gO_ow, gF_ow, gF_sh, sm_some, w_asg1, w_asg, w_asgO, w_par, w_ret, w_drop, w_aug, w_mut, w_seti, w_augi, w_pop, w_frz, w_sset, w_ife, w_skip, w_brk, w_cont, w_seq, kq_ret, kq_bk, kq_ct, kl_bk, kl_ret, br_b, decide_eq_true_eq, decide_eq_false_iff_not, Bool.not_eq_true', Bool.not_eq_false', reduceCtorEq, true_implies, false_implies, forall_const, not_true_eq_false, not_false_eq_true, and_true, true_and, implies_true, sm_add, sm_addI, sm_addL, sm_addT, sm_cat, sm_sub, sm_mul, sm_div, sm_mod, sm_pow, sm_neg, sm_lt, sm_le, sm_gt, sm_ge, sm_eqI, sm_neI, sm_eqB, sm_neB, sm_isN, sm_isNotN, sm_truI, sm_truB, sm_truN, sm_truL, sm_truT, sm_not, sm_ixL, sm_ixT, sm_at0, sm_at1, sm_at2, sm_lenL, sm_lenT, sm_abs, sm_int, sm_intB, sm_max2, sm_min2, sm_listL, sm_listT, sm_tupL, sm_tupT, sm_seqL, sm_seqT, sm_lsL, sm_rng1, sm_rng2, sm_rng3, sm_app, sm_rep1, sm_set1, sm_setN, sm_setC, sm_mixN, sm_mixC, sm_isi, sm_isi2, sm_item0, sm_item1, sm_iset0, sm_iset1, wipe_n, wipe_c, List.set_cons_zero, List.set_cons_succ, List.getElem?_cons_zero, List.getElem?_cons_succ, List.length_cons, List.length_nil, Nat.zero_le, Bool.false_eq_true, if_true, if_false, Bool.not_true, Bool.not_false, Bool.not_not] at h
      exact h
    | str => exact ha.elim
    | dict => exact ha.elim
    | none =>
      show W (z__law_exact _) [.sh .none, .sh .none, .no, .no] none _
      unfold z__law_exact
      simp only [e_var, e_rd, e_sr, e_cst, e_op1, e_op2, e_op3, e_chain, e_band, e_bor, e_ife, e_anil, e_acons, e_lst, e_tup, e_bi, e_call, e_calls, e_sget, ls_l, gV_sh, gR_sh, gR_br, gR_ow, gS_sh, gS_br, gO_ow, gF_ow, gF_sh, sm_some, w_asg1, w_asg, w_asgO, w_par, w_ret, w_drop, w_aug, w_mut, w_seti, w_augi, w_pop, w_frz, w_sset, w_ife, w_skip, w_brk, w_cont, w_seq, kq_ret, kq_bk, kq_ct, kl_bk, kl_ret, br_b, decide_eq_true_eq, decide_eq_false_iff_not, Bool.not_eq_true', Bool.not_eq_false', reduceCtorEq, true_implies, false_implies, forall_const, not_true_eq_false, not_false_eq_true, and_true, true_and, implies_true, sm_add, sm_addI, sm_addL, sm_addT, sm_cat, sm_sub, sm_mul, sm_div, sm_mod, sm_pow, sm_neg, sm_lt, sm_le, sm_gt, sm_ge, sm_eqI, sm_neI, sm_eqB, sm_neB, sm_isN, sm_isNotN, sm_truI, sm_truB, sm_truN, sm_truL, sm_truT, sm_not, sm_ixL, sm_ixT, sm_at0, sm_at1, sm_at2, sm_lenL, sm_lenT, sm_abs, sm_int, sm_intB, sm_max2, sm_min2, sm_listL, sm_listT, sm_tupL, sm_tupT, sm_seqL, sm_seqT, sm_lsL, sm_rng1, sm_rng2, sm_rng3, sm_app, sm_rep1, sm_set1, sm_setN, sm_setC, sm_mixN, sm_mixC, sm_isi, sm_isi2, sm_item0, sm_item1, sm_iset0, sm_iset1, wipe_n, wipe_c, List.set_cons_zero, List.set_cons_succ, List.getElem?_cons_zero, List.getElem?_cons_succ, List.length_cons, List.length_nil, Nat.zero_le, Bool.false_eq_true, if_true, if_false, Bool.not_true, Bool.not_false, Bool.not_not, kq_nx, tyD, isNn]
      simp [isiB]
    | bool b =>
      show W (z__law_exact _) [.sh (.bool b), .sh (.bool b), .no, .no] none _
      unfold z__law_exact
      simp only [e_var, e_rd, e_sr, e_cst, e_op1, e_op2, e_op3, e_chain, e_band, e_bor, e_ife, e_anil, e_acons, e_lst, e_tup, e_bi, e_call, e_calls, e_sget, ls_l, gV_sh, gR_sh, gR_br, gR_ow, gS_sh, gS_br, gO_ow, gF_ow, gF_sh, sm_some, w_asg1, w_asg, w_asgO, w_par, w_ret, w_drop, w_aug, w_mut, w_seti, w_augi, w_pop, w_frz, w_sset, w_ife, w_skip, w_brk, w_cont, w_seq, kq_ret, kq_bk, kq_ct, kl_bk, kl_ret, br_b, decide_eq_true_eq, decide_eq_false_iff_not, Bool.not_eq_true', Bool.not_eq_false', reduceCtorEq, true_implies, false_implies, forall_const, not_true_eq_false, not_false_eq_true, and_true, true_and, implies_true, sm_add, sm_addI, sm_addL, sm_addT, sm_cat, sm_sub, sm_mul, sm_div, sm_mod, sm_pow, sm_neg, sm_lt, sm_le, sm_gt, sm_ge, sm_eqI, sm_neI, sm_eqB, sm_neB, sm_isN, sm_isNotN, sm_truI, sm_truB, sm_truN, sm_truL, sm_truT, sm_not, sm_ixL, sm_ixT, sm_at0, sm_at1, sm_at2, sm_lenL, sm_lenT, sm_abs, sm_int, sm_intB, sm_max2, sm_min2, sm_listL, sm_listT, sm_tupL, sm_tupT, sm_seqL, sm_seqT, sm_lsL, sm_rng1, sm_rng2, sm_rng3, sm_app, sm_rep1, sm_set1, sm_setN, sm_setC, sm_mixN, sm_mixC, sm_isi, sm_isi2, sm_item0, sm_item1, sm_iset0, sm_iset1, wipe_n, wipe_c, List.set_cons_zero, List.set_cons_succ, List.getElem?_cons_zero, List.getElem?_cons_succ, List.length_cons, List.length_nil, Nat.zero_le, Bool.false_eq_true, if_true, if_false, Bool.not_true, Bool.not_false, Bool.not_not, kq_nx, tyD, isNn]
      simp [isiB]
    | int i =>
      show W (z__law_exact _) [.sh (.int i), .sh (.int i), .no, .no] none _
      unfold z__law_exact
      simp only [e_var, e_rd, e_sr, e_cst, e_op1, e_op2, e_op3, e_chain, e_band, e_bor, e_ife, e_anil, e_acons, e_lst, e_tup, e_bi, e_call, e_calls, e_sget, ls_l, gV_sh, gR_sh, gR_br, gR_ow, gS_sh, gS_br, gO_ow, gF_ow, gF_sh, sm_some, w_asg1, w_asg, w_asgO, w_par, w_ret, w_drop, w_aug, w_mut, w_seti, w_augi, w_pop, w_frz, w_sset, w_ife, w_skip, w_brk, w_cont, w_seq, kq_ret, kq_bk, kq_ct, kl_bk, kl_ret, br_b, decide_eq_true_eq, decide_eq_false_iff_not, Bool.not_eq_true', Bool.not_eq_false', reduceCtorEq, true_implies, false_implies, forall_const, not_true_eq_false, not_false_eq_true, and_true, true_and, implies_true, sm_add, sm_addI, sm_addL, sm_addT, sm_cat, sm_sub, sm_mul, sm_div, sm_mod, sm_pow, sm_neg, sm_lt, sm_le, sm_gt, sm_ge, sm_eqI, sm_neI, sm_eqB, sm_neB, sm_isN, sm_isNotN, sm_truI, sm_truB, sm_truN, sm_truL, sm_truT, sm_not, sm_ixL, sm_ixT, sm_at0, sm_at1, sm_at2, sm_lenL, sm_lenT, sm_abs, sm_int, sm_intB, sm_max2, sm_min2, sm_listL, sm_listT, sm_tupL, sm_tupT, sm_seqL, sm_seqT, sm_lsL, sm_rng1, sm_rng2, sm_rng3, sm_app, sm_rep1, sm_set1, sm_setN, sm_setC, sm_mixN, sm_mixC, sm_isi, sm_isi2, sm_item0, sm_item1, sm_iset0, sm_iset1, wipe_n, wipe_c, List.set_cons_zero, List.set_cons_succ, List.getElem?_cons_zero, List.getElem?_cons_succ, List.length_cons, List.length_nil, Nat.zero_le, Bool.false_eq_true, if_true, if_false, Bool.not_true, Bool.not_false, Bool.not_not, kq_nx, tyD, isNn]
      simp [isiB]
noncomputable def fs__law_exact : List D → Option D := fEx 6
theorem sm__law_exact {a b : D} {Q : D → Prop} (e : a = b) (h : XOk 5 a) (q : Q (.bool true)) : Sm (fs__law_exact [a, b]) Q := by
  subst e
  exact sm_fEx 5 a h Q q
end ZC
namespace ZC
open PySem PySem.Spec PyProof.Rows L2 Z ZM

/-! ### divisors -/
def divs (n : Nat) : List Nat := (List.range' 1 n).filter fun d => decide (d ∣ n)
theorem mem_divs {n d : Nat} : d ∈ divs n ↔ 1 ≤ d ∧ d ≤ n ∧ d ∣ n := by
  unfold divs
  rw [List.mem_filter, List.mem_range'_1, decide_eq_true_eq]
  constructor
  · rintro ⟨a, b⟩; exact ⟨a.1, by omega, b⟩
  · rintro ⟨a, b, c⟩; exact ⟨by omega, c⟩
theorem divs_len {n : Nat} : (divs n).length ≤ n := by
  unfold divs
  exact Nat.le_trans (List.length_filter_le _ _) (by simp)
theorem w__law_divisors {n : Nat} (hn : n < 10000000) : W z__law_divisors [.sh (.int n), .no] none (fun o => o = .ret (.list (natsD (divs n))) none) := by
  unfold z__law_divisors
  simp only [e_var, e_rd, e_sr, e_cst, e_op1, e_op2, e_op3, e_chain, e_band, e_bor, e_ife, e_anil, e_acons, e_lst, e_tup, e_bi, e_call, e_calls, e_sget, ls_l, gV_sh, gR_sh, gR_br, gR_ow, gS_sh, gS_br, gO_ow, gF_ow, gF_sh, sm_some, w_asg1, w_asg, w_asgO, w_par, w_ret, w_drop, w_aug, w_mut, w_seti, w_augi, w_pop, w_frz, w_sset, w_ife, w_skip, w_brk, w_cont, w_seq, kq_ret, kq_bk, kq_ct, kl_bk, kl_ret, br_b, decide_eq_true_eq, decide_eq_false_iff_not, Bool.not_eq_true', Bool.not_eq_false', reduceCtorEq, true_implies, false_implies, forall_const, not_true_eq_false, not_false_eq_true, and_true, true_and, implies_true, sm_add, sm_addI, sm_addL, sm_addT, sm_cat, sm_sub, sm_mul, sm_div, sm_mod, sm_pow, sm_neg, sm_lt, sm_le, sm_gt, sm_ge, sm_eqI, sm_neI, sm_eqB, sm_neB, sm_isN, sm_isNotN, sm_truI, sm_truB, sm_truN, sm_truL, sm_truT, sm_not, sm_ixL, sm_ixT, sm_at0, sm_at1, sm_at2, sm_lenL, sm_lenT, sm_abs, sm_int, sm_intB, sm_max2, sm_min2, sm_listL, sm_listT, sm_tupL, sm_tupT, sm_seqL, sm_seqT, sm_lsL, sm_rng1, sm_rng2, sm_rng3, sm_app, sm_rep1, sm_set1, sm_setN, sm_setC, sm_mixN, sm_mixC, sm_isi, sm_isi2, sm_item0, sm_item1, sm_iset0, sm_iset1, wipe_n, wipe_c, List.set_cons_zero, List.set_cons_succ, List.getElem?_cons_zero, List.getElem?_cons_succ, List.length_cons, List.length_nil, Nat.zero_le, Bool.false_eq_true, if_true, if_false, Bool.not_true, Bool.not_false, Bool.not_not]
  refine e_comp_of (fun d => match d with | .int i => decide ((n : Int) / i * i = (n : Int)) | _ => false) (fun d => d) ?_
  simp only [e_var, e_rd, e_sr, e_cst, e_op1, e_op2, e_op3, e_chain, e_band, e_bor, e_ife, e_anil, e_acons, e_lst, e_tup, e_bi, e_call, e_calls, e_sget, ls_l, gV_sh, gR_sh, gR_br, gR_ow, gS_sh, gS_br, gO_ow, gF_ow, gF_sh, sm_some, w_asg1, w_asg, w_asgO, w_par, w_ret, w_drop, w_aug, w_mut, w_seti, w_augi, w_pop, w_frz, w_sset, w_ife, w_skip, w_brk, w_cont, w_seq, kq_ret, kq_bk, kq_ct, kl_bk, kl_ret, br_b, decide_eq_true_eq, decide_eq_false_iff_not, Bool.not_eq_true', Bool.not_eq_false', reduceCtorEq, true_implies, false_implies, forall_const, not_true_eq_false, not_false_eq_true, and_true, true_and, implies_true, sm_add, sm_addI, sm_addL, sm_addT, sm_cat, sm_sub, sm_mul, sm_div, sm_mod, sm_pow, sm_neg, sm_lt, sm_le, sm_gt, sm_ge, sm_eqI, sm_neI, sm_eqB, sm_neB, sm_isN, sm_isNotN, sm_truI, sm_truB, sm_truN, sm_truL, sm_truT, sm_not, sm_ixL, sm_ixT, sm_at0, sm_at1, sm_at2, sm_lenL, sm_lenT, sm_abs, sm_int, sm_intB, sm_max2, sm_min2, sm_listL, sm_listT, sm_tupL, sm_tupT, sm_seqL, sm_seqT, sm_lsL, sm_rng1, sm_rng2, sm_rng3, sm_app, sm_rep1, sm_set1, sm_setN, sm_setC, sm_mixN, sm_mixC, sm_isi, sm_isi2, sm_item0, sm_item1, sm_iset0, sm_iset1, wipe_n, wipe_c, List.set_cons_zero, List.set_cons_succ, List.getElem?_cons_zero, List.getElem?_cons_succ, List.length_cons, List.length_nil, Nat.zero_le, Bool.false_eq_true, if_true, if_false, Bool.not_true, Bool.not_false, Bool.not_not]
  have e : ((n : Int) + 1 - 1).toNat = n := by omega
  refine ⟨by omega, ?_, ?_, ?_⟩
  · unfold rngD; simp; omega
  · intro t ht
    rw [e, show (1 : Int) = ((1 : Nat) : Int) from rfl, rng_nat] at ht
    unfold natsD at ht
    obtain ⟨d, hd, rfl⟩ := List.mem_map.mp ht
    rw [List.mem_range'_1] at hd
    simp only [e_var, e_rd, e_sr, e_cst, e_op1, e_op2, e_op3, e_chain, e_band, e_bor, e_ife, e_anil, e_acons, e_lst, e_tup, e_bi, e_call, e_calls, e_sget, ls_l, gV_sh, gR_sh, gR_br, gR_ow, gS_sh, gS_br, gO_ow, gF_ow, gF_sh, sm_some, w_asg1, w_asg, w_asgO, w_par, w_ret, w_drop, w_aug, w_mut, w_seti, w_augi, w_pop, w_frz, w_sset, w_ife, w_skip, w_brk, w_cont, w_seq, kq_ret, kq_bk, kq_ct, kl_bk, kl_ret, br_b, decide_eq_true_eq, decide_eq_false_iff_not, Bool.not_eq_true', Bool.not_eq_false', reduceCtorEq, true_implies, false_implies, forall_const, not_true_eq_false, not_false_eq_true, and_true, true_and, implies_true, sm_add, sm_addI, sm_addL, sm_addT, sm_cat, sm_sub, sm_mul, sm_div, sm_mod, sm_pow, sm_neg, sm_lt, sm_le, sm_gt, sm_ge, sm_eqI, sm_neI, sm_eqB, sm_neB, sm_isN, sm_isNotN, sm_truI, sm_truB, sm_truN, sm_truL, sm_truT, sm_not, sm_ixL, sm_ixT, sm_at0, sm_at1, sm_at2, sm_lenL, sm_lenT, sm_abs, sm_int, sm_intB, sm_max2, sm_min2, sm_listL, sm_listT, sm_tupL, sm_tupT, sm_seqL, sm_seqT, sm_lsL, sm_rng1, sm_rng2, sm_rng3, sm_app, sm_rep1, sm_set1, sm_setN, sm_setC, sm_mixN, sm_mixC, sm_isi, sm_isi2, sm_item0, sm_item1, sm_iset0, sm_iset1, wipe_n, wipe_c, List.set_cons_zero, List.set_cons_succ, List.getElem?_cons_zero, List.getElem?_cons_succ, List.length_cons, List.length_nil, Nat.zero_le, Bool.false_eq_true, if_true, if_false, Bool.not_true, Bool.not_false, Bool.not_not]
    refine ⟨div_sm, ?_⟩
    have h3 := Int.ediv_le_self (a := (n : Int)) (d : Int) (by omega)
    have h4 : 0 ≤ (n : Int) / (d : Int) := Int.ediv_nonneg (by omega) (by omega)
    exact mul_sm
  · rw [e, show (1 : Int) = ((1 : Nat) : Int) from rfl, rng_nat, natsD_filter, natsD_id]
    congr 1; congr 1; congr 1
    unfold divs
    congr 1
    funext d
    apply Bool.eq_iff_iff.mpr
    rw [decide_eq_true_eq, decide_eq_true_eq]
    exact dm_iff
noncomputable def fs__law_divisors : List D → Option D := FV 1 2 z__law_divisors
theorem sm__law_divisors {i : Int} {n : Nat} {Q : D → Prop} (e : i = n) (hn : n < 10000000) (q : Q (.list (natsD (divs n)))) : Sm (fs__law_divisors [.int i]) Q := by
  subst e; exact FV.sm1 rfl (w__law_divisors hn) q

/-! ### books -/
def bookD (l : List (Nat × Nat)) : List D := l.map fun p => .tuple [.int (p.1 : Nat), .int (p.2 : Nat)]
theorem bookD_app (l m : List (Nat × Nat)) : bookD l ++ bookD m = bookD (l ++ m) := by unfold bookD; simp
theorem bookD_len (l : List (Nat × Nat)) : (bookD l).length = l.length := by unfold bookD; simp
theorem book_len : ∀ (f n : Nat), 2 ^ (bookGo f n).length ≤ max n 1
  | 0, n => by unfold bookGo; simp; omega
  | f + 1, n => by
    unfold bookGo
    split
    · simp; omega
    · rename_i h
      have ih := book_len f (vr (lf n) n)
      have hh := lf_spec (n := n) (by omega)
      obtain ⟨a, b, c⟩ := va_spec hh.1 (show 1 ≤ n by omega)
      have hv := va_pos hh.1 (show 1 ≤ n by omega) hh.2.1
      have : 2 ≤ lf n ^ va (lf n) n := Nat.le_trans hh.1 (by
        have := Nat.pow_le_pow_right (n := lf n) (by omega) hv
        simpa using this)
      have : 2 * vr (lf n) n ≤ lf n ^ va (lf n) n * vr (lf n) n := Nat.mul_le_mul_right _ this
      rw [List.length_cons, Nat.pow_succ]
      omega
theorem book_len_le {n : Nat} (h : 1 ≤ n) : (book n).length < n + 1 := by
  have h1 := book_len n n
  have h2 := @Nat.lt_two_pow_self (book n).length
  unfold book at *
  omega
theorem tupD {l : List D} {p q : D} : (l ++ [PyData.tuple [p, q]]).length = l.length + 1 := by simp

theorem w_book_by {n : Nat} (h1 : 1 ≤ n) (hn : n < 10000000) : W (z_book_by fs_by_trials) [.sh (.int n), .no, .no, .no] none (fun o => o = .ret (.tuple (bookD (book n))) none) := by
  unfold z_book_by
  simp only [e_var, e_rd, e_sr, e_cst, e_op1, e_op2, e_op3, e_chain, e_band, e_bor, e_ife, e_anil, e_acons, e_lst, e_tup, e_bi, e_call, e_calls, e_sget, ls_l, gV_sh, gR_sh, gR_br, gR_ow, gS_sh, gS_br, gO_ow, gF_ow, gF_sh, sm_some, w_asg1, w_asg, w_asgO, w_par, w_ret, w_drop, w_aug, w_mut, w_seti, w_augi, w_pop, w_frz, w_sset, w_ife, w_skip, w_brk, w_cont, w_seq, kq_ret, kq_bk, kq_ct, kl_bk, kl_ret, br_b, decide_eq_true_eq, decide_eq_false_iff_not, Bool.not_eq_true', Bool.not_eq_false', reduceCtorEq, true_implies, false_implies, forall_const, not_true_eq_false, not_false_eq_true, and_true, true_and, implies_true, sm_add, sm_addI, sm_addL, sm_addT, sm_cat, sm_sub, sm_mul, sm_div, sm_mod, sm_pow, sm_neg, sm_lt, sm_le, sm_gt, sm_ge, sm_eqI, sm_neI, sm_eqB, sm_neB, sm_isN, sm_isNotN, sm_truI, sm_truB, sm_truN, sm_truL, sm_truT, sm_not, sm_ixL, sm_ixT, sm_at0, sm_at1, sm_at2, sm_lenL, sm_lenT, sm_abs, sm_int, sm_intB, sm_max2, sm_min2, sm_listL, sm_listT, sm_tupL, sm_tupT, sm_seqL, sm_seqT, sm_lsL, sm_rng1, sm_rng2, sm_rng3, sm_app, sm_rep1, sm_set1, sm_setN, sm_setC, sm_mixN, sm_mixC, sm_isi, sm_isi2, sm_item0, sm_item1, sm_iset0, sm_iset1, wipe_n, wipe_c, List.set_cons_zero, List.set_cons_succ, List.getElem?_cons_zero, List.getElem?_cons_succ, List.length_cons, List.length_nil, Nat.zero_le, Bool.false_eq_true, if_true, if_false, Bool.not_true, Bool.not_false, Bool.not_not, kq_nx]
  refine W.whl (fun m env st => ∃ (k : Nat) (pre : List (Nat × Nat)) (s2 s3 : Sl), env = [.sh (.int k), .ow (.list (bookD pre)), s2, s3] ∧ st = none ∧ 1 ≤ k ∧ k ≤ n ∧ pre ++ book k = book n ∧ m = k + 1) (n + 1) ⟨n, [], _, _, rfl, rfl, h1, Nat.le_refl _, rfl, rfl⟩ ?_
  rintro m env st ⟨k, pre, s2, s3, rfl, rfl, hk1, hkn, hb, rfl⟩
  simp only [e_var, e_rd, e_sr, e_cst, e_op1, e_op2, e_op3, e_chain, e_band, e_bor, e_ife, e_anil, e_acons, e_lst, e_tup, e_bi, e_call, e_calls, e_sget, ls_l, gV_sh, gR_sh, gR_br, gR_ow, gS_sh, gS_br, gO_ow, gF_ow, gF_sh, sm_some, w_asg1, w_asg, w_asgO, w_par, w_ret, w_drop, w_aug, w_mut, w_seti, w_augi, w_pop, w_frz, w_sset, w_ife, w_skip, w_brk, w_cont, w_seq, kq_ret, kq_bk, kq_ct, kl_bk, kl_ret, br_b, decide_eq_true_eq, decide_eq_false_iff_not, Bool.not_eq_true', Bool.not_eq_false', reduceCtorEq, true_implies, false_implies, forall_const, not_true_eq_false, not_false_eq_true, and_true, true_and, implies_true, sm_add, sm_addI, sm_addL, sm_addT, sm_cat, sm_sub, sm_mul, sm_div, sm_mod, sm_pow, sm_neg, sm_lt, sm_le, sm_gt, sm_ge, sm_eqI, sm_neI, sm_eqB, sm_neB, sm_isN, sm_isNotN, sm_truI, sm_truB, sm_truN, sm_truL, sm_truT, sm_not, sm_ixL, sm_ixT, sm_at0, sm_at1, sm_at2, sm_lenL, sm_lenT, sm_abs, sm_int, sm_intB, sm_max2, sm_min2, sm_listL, sm_listT, sm_tupL, sm_tupT, sm_seqL, sm_seqT, sm_lsL, sm_rng1, sm_rng2, sm_rng3, sm_app, sm_rep1, sm_set1, sm_setN, sm_setC, sm_mixN, sm_mixC, sm_isi, sm_isi2, sm_item0, sm_item1, sm_iset0, sm_iset1, wipe_n, wipe_c, List.set_cons_zero, List.set_cons_succ, List.getElem?_cons_zero, List.getElem?_cons_succ, List.length_cons, List.length_nil, Nat.zero_le, Bool.false_eq_true, if_true, if_false, Bool.not_true, Bool.not_false, Bool.not_not]
  refine ⟨fun h => ?_, fun h => ?_⟩
  · refine sm_by_trials (by omega) (by omega) ?_
    have hk2 : 2 ≤ k := by omega
    have hl := lf_spec hk2
    simp only [e_var, e_rd, e_sr, e_cst, e_op1, e_op2, e_op3, e_chain, e_band, e_bor, e_ife, e_anil, e_acons, e_lst, e_tup, e_bi, e_call, e_calls, e_sget, ls_l, gV_sh, gR_sh, gR_br, gR_ow, gS_sh, gS_br, gO_ow, gF_ow, gF_sh, sm_some, w_asg1, w_asg, w_asgO, w_par, w_ret, w_drop, w_aug, w_mut, w_seti, w_augi, w_pop, w_frz, w_sset, w_ife, w_skip, w_brk, w_cont, w_seq, kq_ret, kq_bk, kq_ct, kl_bk, kl_ret, br_b, decide_eq_true_eq, decide_eq_false_iff_not, Bool.not_eq_true', Bool.not_eq_false', reduceCtorEq, true_implies, false_implies, forall_const, not_true_eq_false, not_false_eq_true, and_true, true_and, implies_true, sm_add, sm_addI, sm_addL, sm_addT, sm_cat, sm_sub, sm_mul, sm_div, sm_mod, sm_pow, sm_neg, sm_lt, sm_le, sm_gt, sm_ge, sm_eqI, sm_neI, sm_eqB, sm_neB, sm_isN, sm_isNotN, sm_truI, sm_truB, sm_truN, sm_truL, sm_truT, sm_not, sm_ixL, sm_ixT, sm_at0, sm_at1, sm_at2, sm_lenL, sm_lenT, sm_abs, sm_int, sm_intB, sm_max2, sm_min2, sm_listL, sm_listT, sm_tupL, sm_tupT, sm_seqL, sm_seqT, sm_lsL, sm_rng1, sm_rng2, sm_rng3, sm_app, sm_rep1, sm_set1, sm_setN, sm_setC, sm_mixN, sm_mixC, sm_isi, sm_isi2, sm_item0, sm_item1, sm_iset0, sm_iset1, wipe_n, wipe_c, List.set_cons_zero, List.set_cons_succ, List.getElem?_cons_zero, List.getElem?_cons_succ, List.length_cons, List.length_nil, Nat.zero_le, Bool.false_eq_true, if_true, if_false, Bool.not_true, Bool.not_false, Bool.not_not, kq_nx]
    refine W.whl (fun m env st => ∃ (j v : Nat), env = [.sh (.int j), .ow (.list (bookD pre)), .sh (.int (lf k : Nat)), .sh (.int v)] ∧ st = none ∧ 1 ≤ j ∧ k = lf k ^ v * j ∧ m = j + 1) (k + 1) ⟨k, 0, rfl, rfl, hk1, by simp, rfl⟩ ?_
    rintro m env st ⟨j, v, rfl, rfl, hj1, hjk, rfl⟩
    simp only [e_var, e_rd, e_sr, e_cst, e_op1, e_op2, e_op3, e_chain, e_band, e_bor, e_ife, e_anil, e_acons, e_lst, e_tup, e_bi, e_call, e_calls, e_sget, ls_l, gV_sh, gR_sh, gR_br, gR_ow, gS_sh, gS_br, gO_ow, gF_ow, gF_sh, sm_some, w_asg1, w_asg, w_asgO, w_par, w_ret, w_drop, w_aug, w_mut, w_seti, w_augi, w_pop, w_frz, w_sset, w_ife, w_skip, w_brk, w_cont, w_seq, kq_ret, kq_bk, kq_ct, kl_bk, kl_ret, br_b, decide_eq_true_eq, decide_eq_false_iff_not, Bool.not_eq_true', Bool.not_eq_false', reduceCtorEq, true_implies, false_implies, forall_const, not_true_eq_false, not_false_eq_true, and_true, true_and, implies_true, sm_add, sm_addI, sm_addL, sm_addT, sm_cat, sm_sub, sm_mul, sm_div, sm_mod, sm_pow, sm_neg, sm_lt, sm_le, sm_gt, sm_ge, sm_eqI, sm_neI, sm_eqB, sm_neB, sm_isN, sm_isNotN, sm_truI, sm_truB, sm_truN, sm_truL, sm_truT, sm_not, sm_ixL, sm_ixT, sm_at0, sm_at1, sm_at2, sm_lenL, sm_lenT, sm_abs, sm_int, sm_intB, sm_max2, sm_min2, sm_listL, sm_listT, sm_tupL, sm_tupT, sm_seqL, sm_seqT, sm_lsL, sm_rng1, sm_rng2, sm_rng3, sm_app, sm_rep1, sm_set1, sm_setN, sm_setC, sm_mixN, sm_mixC, sm_isi, sm_isi2, sm_item0, sm_item1, sm_iset0, sm_iset1, wipe_n, wipe_c, List.set_cons_zero, List.set_cons_succ, List.getElem?_cons_zero, List.getElem?_cons_succ, List.length_cons, List.length_nil, Nat.zero_le, Bool.false_eq_true, if_true, if_false, Bool.not_true, Bool.not_false, Bool.not_not]
    refine ⟨by omega, fun h0 => ?_, fun h0 => ?_⟩
    · have hd := md_iff.mp h0
      obtain ⟨i, rfl⟩ := hd
      have hi1 : 1 ≤ i := by
        rcases i with _ | i
        · simp at hj1
        · omega
      have hlt : i < lf k * i := by
        have : 2 * i ≤ lf k * i := Nat.mul_le_mul_right _ hl.1
        omega
      have hdiv : ((lf k * i : Nat) : Int) / (lf k : Int) = (i : Nat) := by
        rw [← Int.natCast_ediv, Nat.mul_div_cancel_left _ (by omega)]
      have hlk := lf_le_self hk2
      simp only [e_var, e_rd, e_sr, e_cst, e_op1, e_op2, e_op3, e_chain, e_band, e_bor, e_ife, e_anil, e_acons, e_lst, e_tup, e_bi, e_call, e_calls, e_sget, ls_l, gV_sh, gR_sh, gR_br, gR_ow, gS_sh, gS_br, gO_ow, gF_ow, gF_sh, sm_some, w_asg1, w_asg, w_asgO, w_par, w_ret, w_drop, w_aug, w_mut, w_seti, w_augi, w_pop, w_frz, w_sset, w_ife, w_skip, w_brk, w_cont, w_seq, kq_ret, kq_bk, kq_ct, kl_bk, kl_ret, br_b, decide_eq_true_eq, decide_eq_false_iff_not, Bool.not_eq_true', Bool.not_eq_false', reduceCtorEq, true_implies, false_implies, forall_const, not_true_eq_false, not_false_eq_true, and_true, true_and, implies_true, sm_add, sm_addI, sm_addL, sm_addT, sm_cat, sm_sub, sm_mul, sm_div, sm_mod, sm_pow, sm_neg, sm_lt, sm_le, sm_gt, sm_ge, sm_eqI, sm_neI, sm_eqB, sm_neB, sm_isN, sm_isNotN, sm_truI, sm_truB, sm_truN, sm_truL, sm_truT, sm_not, sm_ixL, sm_ixT, sm_at0, sm_at1, sm_at2, sm_lenL, sm_lenT, sm_abs, sm_int, sm_intB, sm_max2, sm_min2, sm_listL, sm_listT, sm_tupL, sm_tupT, sm_seqL, sm_seqT, sm_lsL, sm_rng1, sm_rng2, sm_rng3, sm_app, sm_rep1, sm_set1, sm_setN, sm_setC, sm_mixN, sm_mixC, sm_isi, sm_isi2, sm_item0, sm_item1, sm_iset0, sm_iset1, wipe_n, wipe_c, List.set_cons_zero, List.set_cons_succ, List.getElem?_cons_zero, List.getElem?_cons_succ, List.length_cons, List.length_nil, Nat.zero_le, Bool.false_eq_true, if_true, if_false, Bool.not_true, Bool.not_false, Bool.not_not, kq_nx, hdiv]
      exact ⟨div_sm, i + 1, by omega, i, v + 1, rfl, rfl, hi1, by rw [Nat.pow_succ, Nat.mul_assoc]; exact hjk, rfl⟩
    · have hd : ¬ lf k ∣ j := fun c => h0 (md_iff.mpr c)
      obtain ⟨ev, er⟩ := va_of hl.1 hk1 hjk hd
      have hlen := book_len_le (n := n) h1
      have hpl : pre.length ≤ (book n).length := by rw [← hb]; simp
      simp only [e_var, e_rd, e_sr, e_cst, e_op1, e_op2, e_op3, e_chain, e_band, e_bor, e_ife, e_anil, e_acons, e_lst, e_tup, e_bi, e_call, e_calls, e_sget, ls_l, gV_sh, gR_sh, gR_br, gR_ow, gS_sh, gS_br, gO_ow, gF_ow, gF_sh, sm_some, w_asg1, w_asg, w_asgO, w_par, w_ret, w_drop, w_aug, w_mut, w_seti, w_augi, w_pop, w_frz, w_sset, w_ife, w_skip, w_brk, w_cont, w_seq, kq_ret, kq_bk, kq_ct, kl_bk, kl_ret, br_b, decide_eq_true_eq, decide_eq_false_iff_not, Bool.not_eq_true', Bool.not_eq_false', reduceCtorEq, true_implies, false_implies, forall_const, not_true_eq_false, not_false_eq_true, and_true, true_and, implies_true, sm_add, sm_addI, sm_addL, sm_addT, sm_cat, sm_sub, sm_mul, sm_div, sm_mod, sm_pow, sm_neg, sm_lt, sm_le, sm_gt, sm_ge, sm_eqI, sm_neI, sm_eqB, sm_neB, sm_isN, sm_isNotN, sm_truI, sm_truB, sm_truN, sm_truL, sm_truT, sm_not, sm_ixL, sm_ixT, sm_at0, sm_at1, sm_at2, sm_lenL, sm_lenT, sm_abs, sm_int, sm_intB, sm_max2, sm_min2, sm_listL, sm_listT, sm_tupL, sm_tupT, sm_seqL, sm_seqT, sm_lsL, sm_rng1, sm_rng2, sm_rng3, sm_app, sm_rep1, sm_set1, sm_setN, sm_setC, sm_mixN, sm_mixC, sm_isi, sm_isi2, sm_item0, sm_item1, sm_iset0, sm_iset1, wipe_n, wipe_c, List.set_cons_zero, List.set_cons_succ, List.getElem?_cons_zero, List.getElem?_cons_succ, List.length_cons, List.length_nil, Nat.zero_le, Bool.false_eq_true, if_true, if_false, Bool.not_true, Bool.not_false, Bool.not_not, kq_nx]
      have hlt := vr_lt hl.1 hk1 hl.2.1
      rw [er] at hlt
      refine ⟨by decide, by rw [bookD_len]; omega, j + 1, by omega, j, pre ++ [(lf k, v)], .sh (.int (lf k : Nat)), .sh (.int v), ?_, rfl, hj1, by omega, ?_, rfl⟩
      · rw [← bookD_app]; rfl
      · rw [← hb, book_step hk2, ev, er]; simp
  · have : k = 1 := by omega
    subst this
    rw [book_one (by omega), List.append_nil] at hb
    simp only [e_var, e_rd, e_sr, e_cst, e_op1, e_op2, e_op3, e_chain, e_band, e_bor, e_ife, e_anil, e_acons, e_lst, e_tup, e_bi, e_call, e_calls, e_sget, ls_l, gV_sh, gR_sh, gR_br, gR_ow, gS_sh, gS_br, gO_ow, gF_ow, gF_sh, sm_some, w_asg1, w_asg, w_asgO, w_par, w_ret, w_drop, w_aug, w_mut, w_seti, w_augi, w_pop, w_frz, w_sset, w_ife, w_skip, w_brk, w_cont, w_seq, kq_ret, kq_bk, kq_ct, kl_bk, kl_ret, br_b, decide_eq_true_eq, decide_eq_false_iff_not, Bool.not_eq_true', Bool.not_eq_false', reduceCtorEq, true_implies, false_implies, forall_const, not_true_eq_false, not_false_eq_true, and_true, true_and, implies_true, sm_add, sm_addI, sm_addL, sm_addT, sm_cat, sm_sub, sm_mul, sm_div, sm_mod, sm_pow, sm_neg, sm_lt, sm_le, sm_gt, sm_ge, sm_eqI, sm_neI, sm_eqB, sm_neB, sm_isN, sm_isNotN, sm_truI, sm_truB, sm_truN, sm_truL, sm_truT, sm_not, sm_ixL, sm_ixT, sm_at0, sm_at1, sm_at2, sm_lenL, sm_lenT, sm_abs, sm_int, sm_intB, sm_max2, sm_min2, sm_listL, sm_listT, sm_tupL, sm_tupT, sm_seqL, sm_seqT, sm_lsL, sm_rng1, sm_rng2, sm_rng3, sm_app, sm_rep1, sm_set1, sm_setN, sm_setC, sm_mixN, sm_mixC, sm_isi, sm_isi2, sm_item0, sm_item1, sm_iset0, sm_iset1, wipe_n, wipe_c, List.set_cons_zero, List.set_cons_succ, List.getElem?_cons_zero, List.getElem?_cons_succ, List.length_cons, List.length_nil, Nat.zero_le, Bool.false_eq_true, if_true, if_false, Bool.not_true, Bool.not_false, Bool.not_not, kq_nx]
    rw [hb]
noncomputable def fs_book_by : List D → Option D := FV 1 4 (z_book_by fs_by_trials)
theorem sm_book_by {i : Int} {n : Nat} {Q : D → Prop} (e : i = n) (h1 : 1 ≤ n) (hn : n < 10000000) (q : Q (.tuple (bookD (book n)))) : Sm (fs_book_by [.int i]) Q := by
  subst e; exact FV.sm1 rfl (w_book_by h1 hn) q

theorem w__law_book {n : Nat} (h1 : 1 ≤ n) (hn : n < 10000000) : W z__law_book [.sh (.int n), .no, .no, .no] none (fun o => o = .ret (.tuple (bookD (book n))) none) := by
  unfold z__law_book
  simp only [e_var, e_rd, e_sr, e_cst, e_op1, e_op2, e_op3, e_chain, e_band, e_bor, e_ife, e_anil, e_acons, e_lst, e_tup, e_bi, e_call, e_calls, e_sget, ls_l, gV_sh, gR_sh, gR_br, gR_ow, gS_sh, gS_br, gO_ow, gF_ow, gF_sh, sm_some, w_asg1, w_asg, w_asgO, w_par, w_ret, w_drop, w_aug, w_mut, w_seti, w_augi, w_pop, w_frz, w_sset, w_ife, w_skip, w_brk, w_cont, w_seq, kq_ret, kq_bk, kq_ct, kl_bk, kl_ret, br_b, decide_eq_true_eq, decide_eq_false_iff_not, Bool.not_eq_true', Bool.not_eq_false', reduceCtorEq, true_implies, false_implies, forall_const, not_true_eq_false, not_false_eq_true, and_true, true_and, implies_true, sm_add, sm_addI, sm_addL, sm_addT, sm_cat, sm_sub, sm_mul, sm_div, sm_mod, sm_pow, sm_neg, sm_lt, sm_le, sm_gt, sm_ge, sm_eqI, sm_neI, sm_eqB, sm_neB, sm_isN, sm_isNotN, sm_truI, sm_truB, sm_truN, sm_truL, sm_truT, sm_not, sm_ixL, sm_ixT, sm_at0, sm_at1, sm_at2, sm_lenL, sm_lenT, sm_abs, sm_int, sm_intB, sm_max2, sm_min2, sm_listL, sm_listT, sm_tupL, sm_tupT, sm_seqL, sm_seqT, sm_lsL, sm_rng1, sm_rng2, sm_rng3, sm_app, sm_rep1, sm_set1, sm_setN, sm_setC, sm_mixN, sm_mixC, sm_isi, sm_isi2, sm_item0, sm_item1, sm_iset0, sm_iset1, wipe_n, wipe_c, List.set_cons_zero, List.set_cons_succ, List.getElem?_cons_zero, List.getElem?_cons_succ, List.length_cons, List.length_nil, Nat.zero_le, Bool.false_eq_true, if_true, if_false, Bool.not_true, Bool.not_false, Bool.not_not, kq_nx]
  refine W.whl (fun m env st => ∃ (k d : Nat) (pre : List (Nat × Nat)) (s3 : Sl), env = [.sh (.int k), .sh (.list (bookD pre)), .sh (.int d), s3] ∧ st = none ∧ 1 ≤ k ∧ k ≤ n ∧ pre ++ book k = book n ∧ 2 ≤ d ∧ d ≤ n + 1 ∧ (∀ e, 2 ≤ e → e < d → ¬ e ∣ k) ∧ m = k + (k - d)) (n + (n - 2)) ⟨n, 2, [], _, rfl, rfl, h1, Nat.le_refl _, rfl, by omega, by omega, fun e _ _ => by omega, rfl⟩ ?_
  rintro m env st ⟨k, d, pre, s3, rfl, rfl, hk1, hkn, hb, hd2, hdn, hd, rfl⟩
  have body : ∀ c : Nat, 2 ≤ k → 2 ≤ c → c ≤ k → (∀ e, 2 ≤ e → e < c → ¬ e ∣ k) → k - c ≤ k - d → W (.seq (.asg (.one 3) (.cst (.int 0))) 
  (.seq (.whl (.op2 dEq (.op2 dMul (.op2 dDiv (.rd 0) (.rd 2)) (.rd 2)) (.rd 0)) 
  (.par [(0, false), (3, false)] (.acons (.op2 dDiv (.rd 0) (.rd 2)) (.acons (.op2 dAdd (.rd 3) (.cst (.int 1))) .anil)))) 
  (.seq (.asg (.one 1) (.ife (.op2 dGt (.rd 3) (.cst (.int 0))) (.op2 dCat (.rd 1) (.lst (.acons (.tup (.acons (.var 2) (.acons (.var 3) .anil))) .anil))) (.var 1))) 
  (.asg (.one 2) (.op2 dAdd (.rd 2) (.cst (.int 1))))))) [.sh (.int k), .sh (.list (bookD pre)), .sh (.int c), s3] none (Kl (fun e s => ∃ m', m' < k + (k - d) ∧ ∃ (k d : Nat) (pre : List (Nat × Nat)) (s3 : Sl), e = [.sh (.int k), .sh (.list (bookD pre)), .sh (.int d), s3] ∧ s = none ∧ 1 ≤ k ∧ k ≤ n ∧ pre ++ book k = book n ∧ 2 ≤ d ∧ d ≤ n + 1 ∧ (∀ e, 2 ≤ e → e < d → ¬ e ∣ k) ∧ m' = k + (k - d)) (Kq (.ret (.bi dTuple (.acons (.rd 1) .anil))) (fun o => o = .ret (.tuple (bookD (book n))) none))) := by
    intro c hk2 hc2 hck hc hcd
    simp only [e_var, e_rd, e_sr, e_cst, e_op1, e_op2, e_op3, e_chain, e_band, e_bor, e_ife, e_anil, e_acons, e_lst, e_tup, e_bi, e_call, e_calls, e_sget, ls_l, gV_sh, gR_sh, gR_br, gR_ow, gS_sh, gS_br, gO_ow, gF_ow, gF_sh, sm_some, w_asg1, w_asg, w_asgO, w_par, w_ret, w_drop, w_aug, w_mut, w_seti, w_augi, w_pop, w_frz, w_sset, w_ife, w_skip, w_brk, w_cont, w_seq, kq_ret, kq_bk, kq_ct, kl_bk, kl_ret, br_b, decide_eq_true_eq, decide_eq_false_iff_not, Bool.not_eq_true', Bool.not_eq_false', reduceCtorEq, true_implies, false_implies, forall_const, not_true_eq_false, not_false_eq_true, and_true, true_and, implies_true, sm_add, sm_addI, sm_addL, sm_addT, sm_cat, sm_sub, sm_mul, sm_div, sm_mod, sm_pow, sm_neg, sm_lt, sm_le, sm_gt, sm_ge, sm_eqI, sm_neI, sm_eqB, sm_neB, sm_isN, sm_isNotN, sm_truI, sm_truB, sm_truN, sm_truL, sm_truT, sm_not, sm_ixL, sm_ixT, sm_at0, sm_at1, sm_at2, sm_lenL, sm_lenT, sm_abs, sm_int, sm_intB, sm_max2, sm_min2, sm_listL, sm_listT, sm_tupL, sm_tupT, sm_seqL, sm_seqT, sm_lsL, sm_rng1, sm_rng2, sm_rng3, sm_app, sm_rep1, sm_set1, sm_setN, sm_setC, sm_mixN, sm_mixC, sm_isi, sm_isi2, sm_item0, sm_item1, sm_iset0, sm_iset1, wipe_n, wipe_c, List.set_cons_zero, List.set_cons_succ, List.getElem?_cons_zero, List.getElem?_cons_succ, List.length_cons, List.length_nil, Nat.zero_le, Bool.false_eq_true, if_true, if_false, Bool.not_true, Bool.not_false, Bool.not_not, kq_nx]
    refine W.whl (fun m env st => ∃ (j v : Nat), env = [.sh (.int j), .sh (.list (bookD pre)), .sh (.int c), .sh (.int v)] ∧ st = none ∧ 1 ≤ j ∧ k = c ^ v * j ∧ m = j + 1) (k + 1) ⟨k, 0, rfl, rfl, hk1, by simp, rfl⟩ ?_
    rintro m env st ⟨j, v, rfl, rfl, hj1, hjk, rfl⟩
    have hjk' : j ≤ k := by
      have := Nat.le_mul_of_pos_left j (Nat.pow_pos (n := v) (show 0 < c by omega))
      omega
    simp only [e_var, e_rd, e_sr, e_cst, e_op1, e_op2, e_op3, e_chain, e_band, e_bor, e_ife, e_anil, e_acons, e_lst, e_tup, e_bi, e_call, e_calls, e_sget, ls_l, gV_sh, gR_sh, gR_br, gR_ow, gS_sh, gS_br, gO_ow, gF_ow, gF_sh, sm_some, w_asg1, w_asg, w_asgO, w_par, w_ret, w_drop, w_aug, w_mut, w_seti, w_augi, w_pop, w_frz, w_sset, w_ife, w_skip, w_brk, w_cont, w_seq, kq_ret, kq_bk, kq_ct, kl_bk, kl_ret, br_b, decide_eq_true_eq, decide_eq_false_iff_not, Bool.not_eq_true', Bool.not_eq_false', reduceCtorEq, true_implies, false_implies, forall_const, not_true_eq_false, not_false_eq_true, and_true, true_and, implies_true, sm_add, sm_addI, sm_addL, sm_addT, sm_cat, sm_sub, sm_mul, sm_div, sm_mod, sm_pow, sm_neg, sm_lt, sm_le, sm_gt, sm_ge, sm_eqI, sm_neI, sm_eqB, sm_neB, sm_isN, sm_isNotN, sm_truI, sm_truB, sm_truN, sm_truL, sm_truT, sm_not, sm_ixL, sm_ixT, sm_at0, sm_at1, sm_at2, sm_lenL, sm_lenT, sm_abs, sm_int, sm_intB, sm_max2, sm_min2, sm_listL, sm_listT, sm_tupL, sm_tupT, sm_seqL, sm_seqT, sm_lsL, sm_rng1, sm_rng2, sm_rng3, sm_app, sm_rep1, sm_set1, sm_setN, sm_setC, sm_mixN, sm_mixC, sm_isi, sm_isi2, sm_item0, sm_item1, sm_iset0, sm_iset1, wipe_n, wipe_c, List.set_cons_zero, List.set_cons_succ, List.getElem?_cons_zero, List.getElem?_cons_succ, List.length_cons, List.length_nil, Nat.zero_le, Bool.false_eq_true, if_true, if_false, Bool.not_true, Bool.not_false, Bool.not_not]
    have h3 := Int.ediv_le_self (a := (j : Int)) (c : Int) (by omega)
    have h4 : 0 ≤ (j : Int) / (c : Int) := Int.ediv_nonneg (by omega) (by omega)
    refine ⟨div_sm, mul_sm, fun h0 => ?_, fun h0 => ?_⟩
    · have hdv := dm_iff.mp h0
      obtain ⟨i, rfl⟩ := hdv
      have hi1 : 1 ≤ i := by
        rcases i with _ | i
        · simp at hj1
        · omega
      have hlt : i < c * i := by
        have : 2 * i ≤ c * i := Nat.mul_le_mul_right _ hc2
        omega
      have hdiv : ((c * i : Nat) : Int) / (c : Int) = (i : Nat) := by
        rw [← Int.natCast_ediv, Nat.mul_div_cancel_left _ (by omega)]
      simp only [e_var, e_rd, e_sr, e_cst, e_op1, e_op2, e_op3, e_chain, e_band, e_bor, e_ife, e_anil, e_acons, e_lst, e_tup, e_bi, e_call, e_calls, e_sget, ls_l, gV_sh, gR_sh, gR_br, gR_ow, gS_sh, gS_br, gO_ow, gF_ow, gF_sh, sm_some, w_asg1, w_asg, w_asgO, w_par, w_ret, w_drop, w_aug, w_mut, w_seti, w_augi, w_pop, w_frz, w_sset, w_ife, w_skip, w_brk, w_cont, w_seq, kq_ret, kq_bk, kq_ct, kl_bk, kl_ret, br_b, decide_eq_true_eq, decide_eq_false_iff_not, Bool.not_eq_true', Bool.not_eq_false', reduceCtorEq, true_implies, false_implies, forall_const, not_true_eq_false, not_false_eq_true, and_true, true_and, implies_true, sm_add, sm_addI, sm_addL, sm_addT, sm_cat, sm_sub, sm_mul, sm_div, sm_mod, sm_pow, sm_neg, sm_lt, sm_le, sm_gt, sm_ge, sm_eqI, sm_neI, sm_eqB, sm_neB, sm_isN, sm_isNotN, sm_truI, sm_truB, sm_truN, sm_truL, sm_truT, sm_not, sm_ixL, sm_ixT, sm_at0, sm_at1, sm_at2, sm_lenL, sm_lenT, sm_abs, sm_int, sm_intB, sm_max2, sm_min2, sm_listL, sm_listT, sm_tupL, sm_tupT, sm_seqL, sm_seqT, sm_lsL, sm_rng1, sm_rng2, sm_rng3, sm_app, sm_rep1, sm_set1, sm_setN, sm_setC, sm_mixN, sm_mixC, sm_isi, sm_isi2, sm_item0, sm_item1, sm_iset0, sm_iset1, wipe_n, wipe_c, List.set_cons_zero, List.set_cons_succ, List.getElem?_cons_zero, List.getElem?_cons_succ, List.length_cons, List.length_nil, Nat.zero_le, Bool.false_eq_true, if_true, if_false, Bool.not_true, Bool.not_false, Bool.not_not, hdiv]
      exact ⟨div_sm, i + 1, by omega, i, v + 1, rfl, rfl, hi1, by rw [Nat.pow_succ, Nat.mul_assoc]; exact hjk, rfl⟩
    · have hdv : ¬ c ∣ j := fun x => h0 (dm_iff.mpr x)
      obtain ⟨ev, er⟩ := va_of hc2 hk1 hjk hdv
      have hlen := book_len_le (n := n) h1
      have hpl : pre.length ≤ (book n).length := by rw [← hb]; simp
      simp only [e_var, e_rd, e_sr, e_cst, e_op1, e_op2, e_op3, e_chain, e_band, e_bor, e_ife, e_anil, e_acons, e_lst, e_tup, e_bi, e_call, e_calls, e_sget, ls_l, gV_sh, gR_sh, gR_br, gR_ow, gS_sh, gS_br, gO_ow, gF_ow, gF_sh, sm_some, w_asg1, w_asg, w_asgO, w_par, w_ret, w_drop, w_aug, w_mut, w_seti, w_augi, w_pop, w_frz, w_sset, w_ife, w_skip, w_brk, w_cont, w_seq, kq_ret, kq_bk, kq_ct, kl_bk, kl_ret, br_b, decide_eq_true_eq, decide_eq_false_iff_not, Bool.not_eq_true', Bool.not_eq_false', reduceCtorEq, true_implies, false_implies, forall_const, not_true_eq_false, not_false_eq_true, and_true, true_and, implies_true, sm_add, sm_addI, sm_addL, sm_addT, sm_cat, sm_sub, sm_mul, sm_div, sm_mod, sm_pow, sm_neg, sm_lt, sm_le, sm_gt, sm_ge, sm_eqI, sm_neI, sm_eqB, sm_neB, sm_isN, sm_isNotN, sm_truI, sm_truB, sm_truN, sm_truL, sm_truT, sm_not, sm_ixL, sm_ixT, sm_at0, sm_at1, sm_at2, sm_lenL, sm_lenT, sm_abs, sm_int, sm_intB, sm_max2, sm_min2, sm_listL, sm_listT, sm_tupL, sm_tupT, sm_seqL, sm_seqT, sm_lsL, sm_rng1, sm_rng2, sm_rng3, sm_app, sm_rep1, sm_set1, sm_setN, sm_setC, sm_mixN, sm_mixC, sm_isi, sm_isi2, sm_item0, sm_item1, sm_iset0, sm_iset1, wipe_n, wipe_c, List.set_cons_zero, List.set_cons_succ, List.getElem?_cons_zero, List.getElem?_cons_succ, List.length_cons, List.length_nil, Nat.zero_le, Bool.false_eq_true, if_true, if_false, Bool.not_true, Bool.not_false, Bool.not_not, kq_nx]
      have hj' : ∀ e, 2 ≤ e → e < c + 1 → ¬ e ∣ j := by
        intro e e1 e2 e3
        by_cases x : e = c
        · subst x; exact hdv e3
        · refine hc e e1 (by omega) ?_
          rw [hjk]
          exact Nat.dvd_trans e3 (Nat.dvd_mul_left _ _)
      refine ⟨fun hv => ?_, fun hv => ?_⟩
      · have hck' : c ∣ k := by
          rw [hjk]
          obtain ⟨w, rfl⟩ : ∃ w, v = w + 1 := ⟨v - 1, by omega⟩
          rw [Nat.pow_succ]
          exact Nat.dvd_trans (Nat.dvd_mul_left c (c ^ w)) (Nat.dvd_mul_right _ _)
        have hlf : lf k = c := lf_eq hk2 hc2 hck' hc
        have hlt := vr_lt hc2 hk1 hck'
        rw [er] at hlt
        refine ⟨by decide, by decide, by rw [bookD_len]; omega, j + (j - (c + 1)), by omega, j, c + 1, pre ++ [(c, v)], .sh (.int v), ?_, rfl, hj1, by omega, ?_, by omega, by omega, hj', rfl⟩
        · rw [← bookD_app]; rfl
        · rw [← hb, book_step hk2, hlf, ev, er]; simp
      · have hv0 : v = 0 := by omega
        subst hv0
        have hjk2 : k = j := by simpa using hjk
        subst hjk2
        have hne : c ≠ k := fun e => hdv (e ▸ Nat.dvd_refl _)
        exact ⟨k + (k - (c + 1)), by omega, k, c + 1, pre, _, rfl, rfl, hj1, by omega, hb, by omega, by omega, hj', rfl⟩
  simp only [e_var, e_rd, e_sr, e_cst, e_op1, e_op2, e_op3, e_chain, e_band, e_bor, e_ife, e_anil, e_acons, e_lst, e_tup, e_bi, e_call, e_calls, e_sget, ls_l, gV_sh, gR_sh, gR_br, gR_ow, gS_sh, gS_br, gO_ow, gF_ow, gF_sh, sm_some, w_asg1, w_asg, w_asgO, w_par, w_ret, w_drop, w_aug, w_mut, w_seti, w_augi, w_pop, w_frz, w_sset, w_ife, w_skip, w_brk, w_cont, w_seq, kq_ret, kq_bk, kq_ct, kl_bk, kl_ret, br_b, decide_eq_true_eq, decide_eq_false_iff_not, Bool.not_eq_true', Bool.not_eq_false', reduceCtorEq, true_implies, false_implies, forall_const, not_true_eq_false, not_false_eq_true, and_true, true_and, implies_true, sm_add, sm_addI, sm_addL, sm_addT, sm_cat, sm_sub, sm_mul, sm_div, sm_mod, sm_pow, sm_neg, sm_lt, sm_le, sm_gt, sm_ge, sm_eqI, sm_neI, sm_eqB, sm_neB, sm_isN, sm_isNotN, sm_truI, sm_truB, sm_truN, sm_truL, sm_truT, sm_not, sm_ixL, sm_ixT, sm_at0, sm_at1, sm_at2, sm_lenL, sm_lenT, sm_abs, sm_int, sm_intB, sm_max2, sm_min2, sm_listL, sm_listT, sm_tupL, sm_tupT, sm_seqL, sm_seqT, sm_lsL, sm_rng1, sm_rng2, sm_rng3, sm_app, sm_rep1, sm_set1, sm_setN, sm_setC, sm_mixN, sm_mixC, sm_isi, sm_isi2, sm_item0, sm_item1, sm_iset0, sm_iset1, wipe_n, wipe_c, List.set_cons_zero, List.set_cons_succ, List.getElem?_cons_zero, List.getElem?_cons_succ, List.length_cons, List.length_nil, Nat.zero_le, Bool.false_eq_true, if_true, if_false, Bool.not_true, Bool.not_false, Bool.not_not]
  refine ⟨fun h => ⟨mul_sm, fun h2 => ?_, fun h2 => ?_⟩, fun h => ?_⟩
  · have hk2 : 2 ≤ k := by omega
    have hlt : k < d * d := by exact_mod_cast h2
    refine body k hk2 hk2 (Nat.le_refl _) ?_ (by omega)
    by_cases c : Pr k
    · exact c.2
    · obtain ⟨a, b, e⟩ := small_div hk2 c
      exact absurd b (hd _ a.1 (mul_self_lt (by omega)))
  · have hk2 : 2 ≤ k := by omega
    have hle : d * d ≤ k := by
      apply Nat.le_of_not_lt
      intro c
      exact h2 (by exact_mod_cast c)
    have := Nat.le_mul_self d
    exact body d hk2 hd2 (by omega) hd (Nat.le_refl _)
  · have : k = 1 := by omega
    subst this
    rw [book_one (by omega), List.append_nil] at hb
    simp only [e_var, e_rd, e_sr, e_cst, e_op1, e_op2, e_op3, e_chain, e_band, e_bor, e_ife, e_anil, e_acons, e_lst, e_tup, e_bi, e_call, e_calls, e_sget, ls_l, gV_sh, gR_sh, gR_br, gR_ow, gS_sh, gS_br, gO_ow, gF_ow, gF_sh, sm_some, w_asg1, w_asg, w_asgO, w_par, w_ret, w_drop, w_aug, w_mut, w_seti, w_augi, w_pop, w_frz, w_sset, w_ife, w_skip, w_brk, w_cont, w_seq, kq_ret, kq_bk, kq_ct, kl_bk, kl_ret, br_b, decide_eq_true_eq, decide_eq_false_iff_not, Bool.not_eq_true', Bool.not_eq_false', reduceCtorEq, true_implies, false_implies, forall_const, not_true_eq_false, not_false_eq_true, and_true, true_and, implies_true, sm_add, sm_addI, sm_addL, sm_addT, sm_cat, sm_sub, sm_mul, sm_div, sm_mod, sm_pow, sm_neg, sm_lt, sm_le, sm_gt, sm_ge, sm_eqI, sm_neI, sm_eqB, sm_neB, sm_isN, sm_isNotN, sm_truI, sm_truB, sm_truN, sm_truL, sm_truT, sm_not, sm_ixL, sm_ixT, sm_at0, sm_at1, sm_at2, sm_lenL, sm_lenT, sm_abs, sm_int, sm_intB, sm_max2, sm_min2, sm_listL, sm_listT, sm_tupL, sm_tupT, sm_seqL, sm_seqT, sm_lsL, sm_rng1, sm_rng2, sm_rng3, sm_app, sm_rep1, sm_set1, sm_setN, sm_setC, sm_mixN, sm_mixC, sm_isi, sm_isi2, sm_item0, sm_item1, sm_iset0, sm_iset1, wipe_n, wipe_c, List.set_cons_zero, List.set_cons_succ, List.getElem?_cons_zero, List.getElem?_cons_succ, List.length_cons, List.length_nil, Nat.zero_le, Bool.false_eq_true, if_true, if_false, Bool.not_true, Bool.not_false, Bool.not_not, kq_nx]
    rw [hb]
noncomputable def fs__law_book : List D → Option D := FV 1 4 z__law_book
theorem sm__law_book {i : Int} {n : Nat} {Q : D → Prop} (e : i = n) (h1 : 1 ≤ n) (hn : n < 10000000) (q : Q (.tuple (bookD (book n)))) : Sm (fs__law_book [.int i]) Q := by
  subst e; exact FV.sm1 rfl (w__law_book h1 hn) q
theorem xok_book {n : Nat} (h1 : 1 ≤ n) (hn : n < 10000000) : XOk 2 (.tuple (bookD (book n))) := by
  refine XOk.tuple (by rw [bookD_len]; have := book_len_le h1; omega) fun t ht => ?_
  unfold bookD at ht
  obtain ⟨p, _, rfl⟩ := List.mem_map.mp ht
  exact XOk.tuple (by simp) fun t ht => by
    simp only [List.mem_cons, List.not_mem_nil, or_false] at ht
    rcases ht with rfl | rfl <;> exact XOk.int
end ZC
namespace ZM
/-! orders: Fermat, lifting -/
def ch : Nat → Nat → Nat
  | _, 0 => 1
  | 0, _ + 1 => 0
  | n + 1, k + 1 => ch n k + ch n (k + 1)
theorem ch_zero (n : Nat) : ch n 0 = 1 := by cases n <;> rfl
theorem ch_over : ∀ (n k : Nat), n < k → ch n k = 0
  | 0, k + 1, _ => rfl
  | n + 1, k + 1, h => by
    show ch n k + ch n (k + 1) = 0
    rw [ch_over n k (by omega), ch_over n (k + 1) (by omega)]
theorem ch_self : ∀ n : Nat, ch n n = 1
  | 0 => rfl
  | n + 1 => by
    show ch n n + ch n (n + 1) = 1
    rw [ch_self n, ch_over n (n + 1) (by omega)]
theorem ch_mul : ∀ (n k : Nat), (k + 1) * ch (n + 1) (k + 1) = (n + 1) * ch n k
  | 0, 0 => rfl
  | 0, k + 1 => by
    show (k + 1 + 1) * (ch 0 (k + 1) + ch 0 (k + 1 + 1)) = 1 * ch 0 (k + 1)
    rfl
  | n + 1, 0 => by
    have ih := ch_mul n 0
    show (0 + 1) * (ch (n + 1) 0 + ch (n + 1) (0 + 1)) = (n + 1 + 1) * ch (n + 1) 0
    rw [ch_zero] at *
    omega
  | n + 1, k + 1 => by
    have i1 := ch_mul n k
    have i2 := ch_mul n (k + 1)
    show (k + 1 + 1) * (ch (n + 1) (k + 1) + ch (n + 1) (k + 1 + 1)) = (n + 1 + 1) * (ch n k + ch n (k + 1))
    have e : ch (n + 1) (k + 1) = ch n k + ch n (k + 1) := rfl
    rw [Nat.mul_add, i2]
    rw [show (k + 1 + 1) * ch (n + 1) (k + 1) = (k + 1) * ch (n + 1) (k + 1) + ch (n + 1) (k + 1) by rw [Nat.add_mul (k + 1) 1, Nat.one_mul], i1, e]
    grind
theorem Pr.dvd_ch {p k : Nat} (h : Pr p) (h0 : 0 < k) (hk : k < p) : p ∣ ch p k := by
  obtain ⟨n, rfl⟩ : ∃ n, p = n + 1 := ⟨p - 1, by have := h.1; omega⟩
  obtain ⟨j, rfl⟩ : ∃ j, k = j + 1 := ⟨k - 1, by omega⟩
  have := ch_mul n j
  have hd : (n + 1) ∣ (j + 1) * ch (n + 1) (j + 1) := ⟨ch n j, this⟩
  rcases h.dvd_mul hd with h1 | h1
  · have := Nat.le_of_dvd (by omega) h1
    omega
  · exact h1
/-- the sum of ch n i * a^i for i below k -/
def bsum (a n : Nat) : Nat → Nat
  | 0 => 0
  | k + 1 => bsum a n k + ch n k * a ^ k
theorem bsum_succ (a n : Nat) : ∀ k, bsum a (n + 1) (k + 1) = bsum a n (k + 1) + a * bsum a n k
  | 0 => by simp [bsum, ch_zero]
  | k + 1 => by
    have ih := bsum_succ a n k
    show bsum a (n + 1) (k + 1) + ch (n + 1) (k + 1) * a ^ (k + 1) = (bsum a n (k + 1) + ch n (k + 1) * a ^ (k + 1)) + a * (bsum a n k + ch n k * a ^ k)
    rw [ih]
    have e : ch (n + 1) (k + 1) = ch n k + ch n (k + 1) := rfl
    rw [e, Nat.pow_succ]
    grind
theorem bsum_more (a n : Nat) : ∀ j, bsum a n (n + 1 + j) = bsum a n (n + 1)
  | 0 => rfl
  | j + 1 => by
    show bsum a n (n + 1 + j) + ch n (n + 1 + j) * a ^ (n + 1 + j) = _
    rw [ch_over n _ (by omega), Nat.zero_mul, Nat.add_zero, bsum_more a n j]
theorem binom (a : Nat) : ∀ n, (a + 1) ^ n = bsum a n (n + 1)
  | 0 => by simp [bsum, ch_zero]
  | n + 1 => by
    rw [bsum_succ, bsum_more a n 1, ← binom a n, Nat.pow_succ]
    grind
theorem bsum_mod {p a : Nat} (h : Pr p) : ∀ k, k < p → bsum a p (k + 1) % p = 1 % p
  | 0, _ => by simp [bsum, ch_zero]
  | k + 1, hk => by
    have ih := bsum_mod (a := a) h k (by omega)
    obtain ⟨q, hq⟩ := h.dvd_ch (k := k + 1) (by omega) hk
    show (bsum a p (k + 1) + ch p (k + 1) * a ^ (k + 1)) % p = 1 % p
    rw [hq, Nat.mul_assoc, Nat.add_mul_mod_self_left, ih]
theorem fermat {p : Nat} (h : Pr p) : ∀ a : Nat, a ^ p % p = a % p
  | 0 => by rw [Nat.zero_pow h.pos]
  | a + 1 => by
    have ih := fermat h a
    rw [binom]
    show (bsum a p p + ch p p * a ^ p) % p = (a + 1) % p
    obtain ⟨n, hn⟩ : ∃ n, p = n + 1 := ⟨p - 1, by have := h.1; omega⟩
    have h1 := bsum_mod (a := a) h n (by omega)
    rw [← hn] at h1
    rw [ch_self, Nat.one_mul, Nat.add_mod, h1, ih, ← Nat.add_mod, Nat.add_comm]
theorem modeq_dvd {n a b : Nat} (h : a ≤ b) : a % n = b % n ↔ n ∣ b - a := by
  constructor
  · intro e
    exact Nat.dvd_of_mod_eq_zero (Nat.sub_mod_eq_zero_of_mod_eq e.symm)
  · rintro ⟨q, hq⟩
    have : b = a + n * q := by omega
    rw [this, Nat.add_mul_mod_self_left]
theorem one_add_pow (z : Nat) : ∀ n, ∃ w, (1 + z) ^ n = 1 + n * z + z * z * w
  | 0 => ⟨0, by simp⟩
  | n + 1 => by
    obtain ⟨w, hw⟩ := one_add_pow z n
    refine ⟨n + w + z * w, ?_⟩
    rw [Nat.pow_succ, hw]
    grind
/-- one more power of p -/
theorem lift_one {p k x : Nat} (hk : 1 ≤ k) (h : x % p ^ k = 1 % p ^ k) (h1 : 1 ≤ x) (hp : 2 ≤ p) : x ^ p % p ^ (k + 1) = 1 % p ^ (k + 1) := by
  have hd : p ^ k ∣ x - 1 := (modeq_dvd h1).mp h.symm
  obtain ⟨y, hy⟩ := hd
  have hx : x = 1 + p ^ k * y := by omega
  obtain ⟨w, hw⟩ := one_add_pow (p ^ k * y) p
  rw [hx, hw]
  obtain ⟨j, rfl⟩ : ∃ j, k = j + 1 := ⟨k - 1, by omega⟩
  have e1 : p * (p ^ (j + 1) * y) = p ^ (j + 1 + 1) * y := by rw [Nat.pow_succ p (j + 1)]; grind
  have e2 : p ^ (j + 1) * y * (p ^ (j + 1) * y) * w = p ^ (j + 1 + 1) * (p ^ j * (y * y * w)) := by rw [Nat.pow_succ p (j + 1), Nat.pow_succ p j]; grind
  rw [e1, e2, Nat.add_assoc, ← Nat.mul_add, Nat.add_mul_mod_self_left]
theorem fermat1 {p a : Nat} (h : Pr p) (ha : ¬ p ∣ a) : a ^ (p - 1) % p = 1 % p := by
  have hf := fermat h a
  have ha1 : 1 ≤ a := by
    rcases a with _ | a
    · exact absurd (Nat.dvd_zero p) ha
    · omega
  have hp1 : 1 ≤ a ^ (p - 1) := Nat.pow_pos ha1
  have hpa : a ≤ a ^ p := Nat.le_self_pow (by have := h.1; omega) a
  have hd : p ∣ a ^ p - a := (modeq_dvd hpa).mp hf.symm
  have e : a ^ p - a = a * (a ^ (p - 1) - 1) := by
    rw [Nat.mul_sub, Nat.mul_one]
    congr 1
    rw [Nat.mul_comm, ← Nat.pow_succ]
    congr 1
    have := h.1; omega
  rw [e] at hd
  rcases h.dvd_mul hd with h1 | h1
  · exact absurd h1 ha
  · exact ((modeq_dvd hp1).mpr h1).symm
theorem euler_pp {p a : Nat} (h : Pr p) (ha : ¬ p ∣ a) : ∀ k, a ^ ((p - 1) * p ^ k) % p ^ (k + 1) = 1 % p ^ (k + 1)
  | 0 => by simpa using fermat1 h ha
  | k + 1 => by
    have ih := euler_pp h ha k
    have ha1 : 1 ≤ a := by
      rcases a with _ | a
      · exact absurd (Nat.dvd_zero p) ha
      · omega
    have := lift_one (by omega) ih (Nat.pow_pos ha1) h.1
    rw [← Nat.pow_mul, Nat.mul_assoc, ← Nat.pow_succ] at this
    exact this
theorem two_pp {a : Nat} (ha : a % 2 = 1) : ∀ k, a ^ (2 ^ (k + 1)) % 2 ^ (k + 3) = 1 % 2 ^ (k + 3)
  | 0 => by
    have e : a ^ 2 ^ (0 + 1) = a * a := by simp [Nat.pow_succ]
    rw [e, Nat.mul_mod]
    have : a % 2 ^ (0 + 3) = 1 ∨ a % 2 ^ (0 + 3) = 3 ∨ a % 2 ^ (0 + 3) = 5 ∨ a % 2 ^ (0 + 3) = 7 := by
      have : (2 : Nat) ^ (0 + 3) = 8 := rfl
      omega
    rcases this with h | h | h | h <;> rw [h] <;> rfl
  | k + 1 => by
    have ih := two_pp ha k
    have := lift_one (p := 2) (by omega) ih (Nat.pow_pos (by omega)) (by omega)
    rw [← Nat.pow_mul, ← Nat.pow_succ] at this
    exact this
/-! orders -/
structure IsOrd (a n d : Nat) : Prop where
  pos : 1 ≤ d
  one : a ^ d % n = 1 % n
  min : ∀ e, 1 ≤ e → e < d → a ^ e % n ≠ 1 % n
theorem IsOrd.exists {a n e : Nat} (h1 : 1 ≤ e) (h : a ^ e % n = 1 % n) : ∃ d, IsOrd a n d := by
  obtain ⟨d, ⟨hd1, hd⟩, hm⟩ := least (P := fun d => 1 ≤ d ∧ a ^ d % n = 1 % n) ⟨e, h1, h⟩
  exact ⟨d, hd1, hd, fun e h1 h2 h3 => hm e h2 ⟨h1, h3⟩⟩
theorem pow_mul_one {a n d k : Nat} (h : a ^ d % n = 1 % n) : a ^ (d * k) % n = 1 % n := by
  induction k with
  | zero => simp
  | succ k ih => rw [Nat.mul_succ, Nat.pow_add, Nat.mul_mod, ih, h, ← Nat.mul_mod, Nat.one_mul]
theorem IsOrd.dvd {a n d e : Nat} (o : IsOrd a n d) (h : a ^ e % n = 1 % n) : d ∣ e := by
  have hlt := Nat.mod_lt e o.pos
  have e1 : e = d * (e / d) + e % d := (Nat.div_add_mod e d).symm
  have : a ^ (e % d) % n = 1 % n := by
    have h2 : a ^ e % n = a ^ (e % d) % n := by
      conv => lhs; rw [e1, Nat.pow_add, Nat.mul_mod, pow_mul_one o.one, ← Nat.mul_mod, Nat.one_mul]
    rw [← h2, h]
  by_cases c : e % d = 0
  · exact Nat.dvd_of_mod_eq_zero c
  · exact absurd this (o.min _ (by omega) hlt)
theorem IsOrd.iff {a n d e : Nat} (o : IsOrd a n d) : a ^ e % n = 1 % n ↔ d ∣ e := ⟨o.dvd, fun ⟨k, hk⟩ => by rw [hk]; exact pow_mul_one o.one⟩
theorem IsOrd.uniq {a n d e : Nat} (o : IsOrd a n d) (p : IsOrd a n e) : d = e := Nat.dvd_antisymm (o.dvd p.one) (p.dvd o.one)
/-- an exponent that loses no prime is the order -/
theorem ord_of_tight {a n t : Nat} (h1 : 1 ≤ t) (h : a ^ t % n = 1 % n) (hp : ∀ p, Pr p → p ∣ t → a ^ (t / p) % n ≠ 1 % n) : IsOrd a n t := by
  obtain ⟨d, o⟩ := IsOrd.exists h1 h
  obtain ⟨k, hk⟩ := o.dvd h
  by_cases c : 2 ≤ k
  · exfalso
    have hs := lf_spec c
    have hpr := lf_pr c
    obtain ⟨j, hj⟩ := hs.2.1
    have h2 := hs.1
    generalize lf k = q at *
    have ht : t = q * (d * j) := by rw [hk, hj]; grind
    refine hp q hpr ⟨d * j, ht⟩ ?_
    rw [ht, Nat.mul_div_cancel_left _ (by omega)]
    exact pow_mul_one o.one
  · have : k = 1 := by
      rcases k with _ | _ | k
      · omega
      · rfl
      · omega
    subst this
    rw [Nat.mul_one] at hk
    subst hk
    exact o
theorem mod_one_mul {n m x : Nat} (hc : Nat.Coprime n m) : x % (n * m) = 1 % (n * m) ↔ x % n = 1 % n ∧ x % m = 1 % m := by
  by_cases hx : 1 ≤ x
  · have e := fun k => (modeq_dvd (n := k) hx)
    constructor
    · intro h
      have := (e _).mp h.symm
      exact ⟨((e _).mpr (Nat.dvd_trans (Nat.dvd_mul_right n m) this)).symm, ((e _).mpr (Nat.dvd_trans (Nat.dvd_mul_left m n) this)).symm⟩
    · rintro ⟨h1, h2⟩
      exact ((e _).mpr (Nat.Coprime.mul_dvd_of_dvd_of_dvd hc ((e _).mp h1.symm) ((e _).mp h2.symm))).symm
  · have : x = 0 := by omega
    subst this
    constructor
    · intro h
      have h3 : n * m ∣ 1 := Nat.dvd_of_mod_eq_zero (by rw [← h]; exact Nat.zero_mod _)
      have h4 := Nat.dvd_one.mp h3
      have h5 : n = 1 ∧ m = 1 := ⟨Nat.dvd_one.mp ⟨m, h4.symm⟩, Nat.dvd_one.mp ⟨n, by rw [Nat.mul_comm]; exact h4.symm⟩⟩
      obtain ⟨rfl, rfl⟩ := h5
      exact ⟨rfl, rfl⟩
    · rintro ⟨h1, h2⟩
      have h3 : n ∣ 1 := Nat.dvd_of_mod_eq_zero (by rw [← h1]; exact Nat.zero_mod _)
      have h4 : m ∣ 1 := Nat.dvd_of_mod_eq_zero (by rw [← h2]; exact Nat.zero_mod _)
      rw [Nat.dvd_one.mp h3, Nat.dvd_one.mp h4]
theorem IsOrd.mul {a n m d e : Nat} (hc : Nat.Coprime n m) (o : IsOrd a n d) (p : IsOrd a m e) : IsOrd a (n * m) (Nat.lcm d e) := by
  have hl : 1 ≤ Nat.lcm d e := Nat.lcm_pos o.pos p.pos
  refine ⟨hl, (mod_one_mul hc).mpr ⟨o.iff.mpr (Nat.dvd_lcm_left d e), p.iff.mpr (Nat.dvd_lcm_right d e)⟩, fun f h1 h2 h3 => ?_⟩
  obtain ⟨h4, h5⟩ := (mod_one_mul hc).mp h3
  have := Nat.le_of_dvd h1 (Nat.lcm_dvd (o.dvd h4) (p.dvd h5))
  omega
end ZM
namespace ZM
/-! books taken apart -/
theorem book_ind {C : Nat → Prop} (h0 : C 1) (h1 : ∀ p v k, Pr p → 1 ≤ v → 1 ≤ k → ¬ p ∣ k → (∀ q, 2 ≤ q → q < p → ¬ q ∣ k) → book (p ^ v * k) = (p, v) :: book k → C k → C (p ^ v * k)) : ∀ n, 1 ≤ n → C n := by
  intro n
  induction n using Nat.strongRecOn with
  | ind n ih =>
    intro hn
    by_cases c : n = 1
    · subst c; exact h0
    · have h2 : 2 ≤ n := by omega
      have hs := lf_spec h2
      obtain ⟨a, b, d⟩ := va_spec hs.1 hn
      have hlt := vr_lt hs.1 hn hs.2.1
      have hb := book_step h2
      have := h1 (lf n) (va (lf n) n) (vr (lf n) n) (lf_pr h2) (va_pos hs.1 hn hs.2.1) d b (fun q q1 q2 q3 => hs.2.2 q q1 q2 (by rw [a]; exact Nat.dvd_trans q3 (Nat.dvd_mul_left _ _))) (by rw [← a]; exact hb) (ih _ hlt d)
      rwa [← a] at this
theorem Pr.one_lt {p : Nat} (h : Pr p) : 1 < p := by have := h.1; omega
theorem book_pr {n : Nat} (hn : 1 ≤ n) : ∀ q ∈ book n, Pr q.1 ∧ 1 ≤ q.2 := by
  refine book_ind (C := fun n => ∀ q ∈ book n, Pr q.1 ∧ 1 ≤ q.2) (by rw [book_one (by omega)]; simp) (fun p v k hp hv hk hd hl hb ih => ?_) n hn
  rw [hb]
  intro q hq
  rcases List.mem_cons.mp hq with rfl | hq
  · exact ⟨hp, hv⟩
  · exact ih q hq
theorem book_mem {n p : Nat} (hn : 1 ≤ n) (hp : Pr p) : p ∣ n → ∃ v, (p, v) ∈ book n := by
  refine book_ind (C := fun n => p ∣ n → ∃ v, (p, v) ∈ book n) (fun h => by have := Nat.le_of_dvd (by omega) h; have := hp.1; omega) (fun q v k hq hv hk hd hl hb ih h => ?_) n hn
  rw [hb]
  rcases hp.dvd_mul h with h1 | h1
  · have := hq.dvd_eq (hp.dvd_pow h1) hp.1
    subst this
    exact ⟨v, .head _⟩
  · obtain ⟨w, hw⟩ := ih h1
    exact ⟨w, .tail _ hw⟩
/-- the product of f over a book -/
def prL (f : Nat → Nat → Nat) : List (Nat × Nat) → Nat
  | [] => 1
  | (p, v) :: r => f p v * prL f r
def lcL (f : Nat → Nat → Nat) : List (Nat × Nat) → Nat
  | [] => 1
  | (p, v) :: r => Nat.lcm (f p v) (lcL f r)
theorem book_prod {n : Nat} (hn : 1 ≤ n) : prL (fun p v => p ^ v) (book n) = n := by
  refine book_ind (C := fun n => prL (fun p v => p ^ v) (book n) = n) (by rw [book_one (by omega)]; rfl) (fun p v k hp hv hk hd hl hb ih => ?_) n hn
  rw [hb]
  show p ^ v * prL _ (book k) = _
  rw [ih]
def phP (p v : Nat) : Nat := (p - 1) * p ^ (v - 1)
def laP (p v : Nat) : Nat := if p = 2 ∧ 2 < v then (p - 1) * p ^ (v - 1) / 2 else (p - 1) * p ^ (v - 1)
def phi (n : Nat) : Nat := prL phP (book n)
def lam (n : Nat) : Nat := lcL laP (book n)
theorem phP_le {p v : Nat} (hv : 1 ≤ v) : phP p v ≤ p ^ v := by
  unfold phP
  obtain ⟨w, rfl⟩ : ∃ w, v = w + 1 := ⟨v - 1, by omega⟩
  rw [Nat.add_sub_cancel, Nat.pow_succ, Nat.mul_comm (p ^ w)]
  exact Nat.mul_le_mul_right _ (by omega)
theorem laP_le {p v : Nat} (hv : 1 ≤ v) : laP p v ≤ p ^ v := by
  have := phP_le (p := p) hv
  unfold phP at this
  unfold laP
  split
  · exact Nat.le_trans (Nat.div_le_self _ _) this
  · exact this
theorem laP_pos {p v : Nat} (hp : Pr p) (hv : 1 ≤ v) : 1 ≤ laP p v := by
  have h1 : 1 ≤ p - 1 := by have := hp.1; omega
  have h2 : 1 ≤ p ^ (v - 1) := Nat.pow_pos hp.pos
  have h3 : 1 ≤ (p - 1) * p ^ (v - 1) := Nat.mul_pos h1 h2
  unfold laP
  split
  · rename_i h
    obtain ⟨rfl, h⟩ := h
    have : 2 ≤ (2 - 1) * 2 ^ (v - 1) := by
      have := Nat.pow_le_pow_right (n := 2) (by decide) (show 1 ≤ v - 1 by omega)
      omega
    omega
  · exact h3
theorem lcL_pos {f : Nat → Nat → Nat} : ∀ {l : List (Nat × Nat)}, (∀ q ∈ l, 1 ≤ f q.1 q.2) → 1 ≤ lcL f l
  | [], _ => Nat.le_refl _
  | (p, v) :: r, h => Nat.lcm_pos (h (p, v) (.head _)) (lcL_pos fun q hq => h q (.tail _ hq))
theorem lam_pos {n : Nat} (hn : 1 ≤ n) : 1 ≤ lam n := lcL_pos fun q hq => laP_pos (book_pr hn q hq).1 (book_pr hn q hq).2
theorem lcm_le_mul {a b : Nat} (ha : 1 ≤ a) (hb : 1 ≤ b) : Nat.lcm a b ≤ a * b := Nat.le_of_dvd (Nat.mul_pos ha hb) (Nat.lcm_dvd_mul a b)
theorem lam_le {n : Nat} (hn : 1 ≤ n) : lam n ≤ n := by
  refine book_ind (C := fun n => lam n ≤ n) (by unfold lam; rw [book_one (by omega)]; exact Nat.le_refl _) (fun p v k hp hv hk hd hl hb ih => ?_) n hn
  show lcL laP (book (p ^ v * k)) ≤ _
  rw [hb]
  show Nat.lcm (laP p v) (lam k) ≤ _
  exact Nat.le_trans (lcm_le_mul (laP_pos hp hv) (lam_pos hk)) (Nat.mul_le_mul (laP_le hv) ih)
theorem la_one {p v a : Nat} (hp : Pr p) (hv : 1 ≤ v) (ha : ¬ p ∣ a) : a ^ laP p v % p ^ v = 1 % p ^ v := by
  unfold laP
  split
  · rename_i h
    obtain ⟨rfl, h⟩ := h
    obtain ⟨w, rfl⟩ : ∃ w, v = w + 3 := ⟨v - 3, by omega⟩
    have e : (2 - 1) * 2 ^ (w + 3 - 1) / 2 = 2 ^ (w + 1) := by
      rw [show w + 3 - 1 = w + 1 + 1 by omega, Nat.pow_succ 2 (w + 1)]; omega
    rw [e]
    exact two_pp (by omega) w
  · obtain ⟨w, rfl⟩ : ∃ w, v = w + 1 := ⟨v - 1, by omega⟩
    exact euler_pp hp ha w
theorem pow_coprime {p v k : Nat} (hp : Pr p) (hd : ¬ p ∣ k) : Nat.Coprime (p ^ v) k := Nat.Coprime.pow_left v (hp.gcd hd)
theorem lam_one {n a : Nat} (hn : 1 ≤ n) : Nat.Coprime a n → a ^ lam n % n = 1 % n := by
  refine book_ind (C := fun n => Nat.Coprime a n → a ^ lam n % n = 1 % n) (fun _ => by rw [Nat.mod_one, Nat.mod_one]) (fun p v k hp hv hk hd hl hb ih hc => ?_) n hn
  have e : lam (p ^ v * k) = Nat.lcm (laP p v) (lam k) := by
    unfold lam; rw [hb]; rfl
  have hk' : Nat.Coprime a k := Nat.Coprime.coprime_dvd_right (Nat.dvd_mul_left k (p ^ v)) hc
  have hpa : ¬ p ∣ a := by
    intro h
    have h1 : p ∣ p ^ v * k := Nat.dvd_trans (by obtain ⟨w, rfl⟩ : ∃ w, v = w + 1 := ⟨v - 1, by omega⟩
                                                 rw [Nat.pow_succ]; exact Nat.dvd_mul_left _ _) (Nat.dvd_mul_right (p ^ v) k)
    have h2 := Nat.dvd_gcd h h1
    rw [hc] at h2
    have := Nat.le_of_dvd (by omega) h2
    have := hp.1
    omega
  rw [e]
  refine (mod_one_mul (pow_coprime hp hd)).mpr ⟨?_, ?_⟩
  · obtain ⟨q, hq⟩ := Nat.dvd_lcm_left (laP p v) (lam k)
    rw [hq]; exact pow_mul_one (la_one hp hv hpa)
  · obtain ⟨q, hq⟩ := Nat.dvd_lcm_right (laP p v) (lam k)
    rw [hq]; exact pow_mul_one (ih hk')
/-! products without common divisors -/
theorem coprime_pr {n m : Nat} (h : ∀ p, Pr p → p ∣ n → ¬ p ∣ m) : Nat.Coprime n m := by
  by_cases c : 2 ≤ Nat.gcd n m
  · have hp := lf_pr c
    have hd := (lf_spec c).2.1
    exact absurd (Nat.dvd_trans hd (Nat.gcd_dvd_right n m)) (h _ hp (Nat.dvd_trans hd (Nat.gcd_dvd_left n m)))
  · by_cases c0 : Nat.gcd n m = 0
    · obtain ⟨h1, h2⟩ := Nat.gcd_eq_zero_iff.mp c0
      subst h1 h2
      exact absurd (Nat.dvd_zero 2) (h 2 (isP_iff.mp (by decide)) (Nat.dvd_zero 2))
    · show Nat.gcd n m = 1
      omega
theorem book_mul : ∀ (s n m : Nat), n + m ≤ s → 1 ≤ n → 1 ≤ m → Nat.Coprime n m → List.Perm (book (n * m)) (book n ++ book m)
  | 0, n, m, hs, h1, h2, _ => by omega
  | s + 1, n, m, hs, h1, h2, hc => by
    by_cases c1 : n = 1
    · subst c1; rw [Nat.one_mul, book_one (n := 1) (by omega), List.nil_append]
    · by_cases c2 : m = 1
      · subst c2; rw [Nat.mul_one, book_one (n := 1) (by omega), List.append_nil]
      · have hn2 : 2 ≤ n := by omega
        have hm2 : 2 ≤ m := by omega
        have hnm : 2 ≤ n * m := Nat.le_trans hn2 (Nat.le_mul_of_pos_right n (by omega))
        have hs' := lf_spec hnm
        have hpr := lf_pr hnm
        have key : ∀ n m : Nat, n + m ≤ s + 1 → 2 ≤ n → 1 ≤ m → Nat.Coprime n m → ∀ p, Pr p → p ∣ n → (∀ q, 2 ≤ q → q < p → ¬ q ∣ n * m) → List.Perm (book (n * m)) (book n ++ book m) := by
          intro n m hs hn2 hm hc p hp hpn hl
          have hlf : lf n = p := lf_eq hn2 hp.1 hpn fun q h1 h2 h3 => hl q h1 h2 (Nat.dvd_trans h3 (Nat.dvd_mul_right n m))
          have hnm : 2 ≤ n * m := Nat.le_trans hn2 (Nat.le_mul_of_pos_right n (by omega))
          have hlf2 : lf (n * m) = p := lf_eq hnm hp.1 (Nat.dvd_trans hpn (Nat.dvd_mul_right n m)) hl
          obtain ⟨a, b, d⟩ := va_spec hp.1 (show 1 ≤ n by omega)
          have hpm : ¬ p ∣ m := by
            intro h
            have h2 := Nat.dvd_gcd hpn h
            rw [hc] at h2
            have := Nat.le_of_dvd (by omega) h2
            have := hp.1
            omega
          have eprod : n * m = p ^ va p n * (vr p n * m) := by
            rw [← Nat.mul_assoc, ← a]
          have hnd : ¬ p ∣ vr p n * m := fun h => by
            rcases hp.dvd_mul h with h3 | h3
            · exact b h3
            · exact hpm h3
          obtain ⟨ev, er⟩ := va_of (p := p) (n := n * m) (v := va p n) (m := vr p n * m) hp.1 (by omega) eprod hnd
          have hlt := vr_lt hp.1 (show 1 ≤ n by omega) hpn
          have hc' : Nat.Coprime (vr p n) m := Nat.Coprime.coprime_dvd_left ⟨p ^ va p n, by rw [Nat.mul_comm]; exact a⟩ hc
          rw [book_step hnm, hlf2, ev, er, book_step hn2, hlf]
          exact (book_mul s (vr p n) m (by omega) d hm hc').cons _
        rcases hpr.dvd_mul hs'.2.1 with h | h
        · exact key n m hs hn2 h2 hc _ hpr h hs'.2.2
        · have := key m n (by omega) hm2 h1 hc.symm _ hpr h (by rw [Nat.mul_comm m n]; exact hs'.2.2)
          rw [Nat.mul_comm n m]
          exact this.trans List.perm_append_comm
theorem prL_perm {f : Nat → Nat → Nat} {l m : List (Nat × Nat)} (h : List.Perm l m) : prL f l = prL f m := by
  induction h with
  | nil => rfl
  | cons x _ ih => obtain ⟨p, v⟩ := x; show _ * _ = _ * _; rw [ih]
  | swap x y l => obtain ⟨p, v⟩ := x; obtain ⟨q, w⟩ := y; show _ * (_ * _) = _ * (_ * _); rw [Nat.mul_left_comm]
  | trans _ _ h1 h2 => rw [h1, h2]
theorem prL_app {f : Nat → Nat → Nat} : ∀ {l m : List (Nat × Nat)}, prL f (l ++ m) = prL f l * prL f m
  | [], m => by show prL f m = 1 * prL f m; rw [Nat.one_mul]
  | (p, v) :: l, m => by
    show f p v * prL f (l ++ m) = f p v * prL f l * prL f m
    rw [prL_app, Nat.mul_assoc]
theorem lcL_perm {f : Nat → Nat → Nat} {l m : List (Nat × Nat)} (h : List.Perm l m) : lcL f l = lcL f m := by
  induction h with
  | nil => rfl
  | cons x _ ih => obtain ⟨p, v⟩ := x; show Nat.lcm _ _ = Nat.lcm _ _; rw [ih]
  | swap x y l => obtain ⟨p, v⟩ := x; obtain ⟨q, w⟩ := y; show Nat.lcm _ (Nat.lcm _ _) = Nat.lcm _ (Nat.lcm _ _); rw [← Nat.lcm_assoc, ← Nat.lcm_assoc, Nat.lcm_comm (f q w)]
  | trans _ _ h1 h2 => rw [h1, h2]
theorem lcL_app {f : Nat → Nat → Nat} : ∀ {l m : List (Nat × Nat)}, lcL f (l ++ m) = Nat.lcm (lcL f l) (lcL f m)
  | [], m => by show lcL f m = Nat.lcm 1 (lcL f m); rw [Nat.lcm_one_left]
  | (p, v) :: l, m => by
    show Nat.lcm (f p v) (lcL f (l ++ m)) = Nat.lcm (Nat.lcm (f p v) (lcL f l)) (lcL f m)
    rw [lcL_app, Nat.lcm_assoc]
theorem phi_mul {n m : Nat} (h1 : 1 ≤ n) (h2 : 1 ≤ m) (hc : Nat.Coprime n m) : phi (n * m) = phi n * phi m := by
  unfold phi; rw [prL_perm (book_mul _ n m (Nat.le_refl _) h1 h2 hc), prL_app]
theorem lam_mul {n m : Nat} (h1 : 1 ≤ n) (h2 : 1 ≤ m) (hc : Nat.Coprime n m) : lam (n * m) = Nat.lcm (lam n) (lam m) := by
  unfold lam; rw [lcL_perm (book_mul _ n m (Nat.le_refl _) h1 h2 hc), lcL_app]
end ZM
namespace ZC
open PySem PySem.Spec PyProof.Rows L2 Z ZM
/-! ### draws of variant A -/
def z1__law_state : ZS := (.seq (.asg (.one 1) (.cst (.int 7))) (.forr (.one 2) (.op1 dSeq (.sr 0)) 
  (.asg (.one 1) (.op2 dMod (.bi dInt (.acons (.op2 dAdd (.op2 dMul (.rd 1) (.cst (.int 31))) (.rd 2)) .anil)) (.cst (.int 1000003))))))
def zc__law_state : ZE := (.comp [2] (.one 2) (.op1 dSeq (.rd 0)) (.cst (.bool true)) (.bi dAbs (.acons (.rd 2) .anil)))
def ze__law_state : ZE := (.op2 dAdd (.rd 1) (.cst (.int 1)))
def GoodA (t : D) : Prop := ∃ (ns : List Int) (s : Int), t = .list [.list (ns.map PyData.int), .int s] ∧ (∀ n ∈ ns, 0 ≤ n) ∧ 0 ≤ s ∧ s < 2147483648
theorem dropWhile_mem {ns : List Int} {p : Int → Bool} : ∀ n ∈ ns.dropWhile p, n ∈ ns := fun n h => (List.dropWhile_suffix p).subset h
theorem sm_drawA {t : D} {m : Int} {Q : D × D → Prop} (ht : GoodA t) (q : ∀ (d : Nat) t', (d : Int) < m → GoodA t' → Q (.int d, t')) (hm : 0 < m := by decide) (hm' : m < 4611686018427387904 := by decide) : Sm (drawA t [.int m]) Q := by
  obtain ⟨ns, s, rfl, hn, h0, h1⟩ := ht
  have hs : s.natAbs.log2 < 1000 := Nat.lt_of_le_of_lt (Sz.log (Sz.of (i := s))) (by decide)
  have hc : (isInts (ns.map PyData.int) && divOk m && decide (s.natAbs.log2 < 1000)) = true := by
    rw [isInts_map, div_ok hm (Sz.of (by omega) hm')]
    simpa using hs
  unfold drawA
  simp only [hc, if_true, toInts_map]
  have mk : ∀ (x : Int) (t' : D), GoodA t' → Q (.int (x % m), t') := fun x t' g => by
    have a := Int.emod_nonneg x (show m ≠ 0 by omega)
    have b := Int.emod_lt_of_pos x hm
    obtain ⟨d, hd⟩ := Int.eq_ofNat_of_zero_le a
    rw [hd] at b ⊢
    exact q d t' b g
  split
  · rename_i v r hd
    refine ⟨_, rfl, mk _ _ ⟨v / m :: r, s, rfl, ?_, h0, h1⟩⟩
    have hmem : ∀ n ∈ v :: r, 0 ≤ n := fun n hx => hn n (dropWhile_mem n (by rw [hd]; exact hx))
    intro n hx
    rcases List.mem_cons.mp hx with rfl | hx
    · exact Int.ediv_nonneg (hmem v (.head _)) (by omega)
    · exact hmem n (.tail _ hx)
  · refine ⟨_, rfl, mk _ _ ⟨[], _, rfl, fun n hx => (by cases hx), Int.emod_nonneg _ (by decide), ?_⟩⟩
    have := Int.emod_lt_of_pos (s * 48271 + 12345) (show (0 : Int) < 2147483647 by decide)
    omega
noncomputable def fs__law_state : List D → Option D := FVm 1 3 z1__law_state zc__law_state ze__law_state
theorem sm__law_state {S : List D} (hS : Scr S) {Q : D → Prop} (q : ∀ t, GoodA t → Q t) : Sm (fs__law_state [.list S]) Q := by
  refine FVm.sm rfl ?_
  show W z1__law_state [.br (.list S), .no, .no] none _
  unfold z1__law_state
  obtain ⟨ns, hg, rfl⟩ := hS
  simp only [e_var, e_rd, e_sr, e_cst, e_op1, e_op2, e_op3, e_chain, e_band, e_bor, e_ife, e_anil, e_acons, e_lst, e_tup, e_bi, e_call, e_calls, e_sget, ls_l, gV_sh, gR_sh, gR_br, gR_ow, gS_sh, gS_br, gO_ow, gF_ow, gF_sh, sm_some, w_asg1, w_asg, w_asgO, w_par, w_ret, w_drop, w_aug, w_mut, w_seti, w_augi, w_pop, w_frz, w_sset, w_ife, w_skip, w_brk, w_cont, w_seq, kq_ret, kq_bk, kq_ct, kl_bk, kl_ret, br_b, decide_eq_true_eq, decide_eq_false_iff_not, Bool.not_eq_true', Bool.not_eq_false', reduceCtorEq, true_implies, false_implies, forall_const, not_true_eq_false, not_false_eq_true, and_true, true_and, implies_true, sm_add, sm_addI, sm_addL, sm_addT, sm_cat, sm_sub, sm_mul, sm_div, sm_mod, sm_pow, sm_neg, sm_lt, sm_le, sm_gt, sm_ge, sm_eqI, sm_neI, sm_eqB, sm_neB, sm_isN, sm_isNotN, sm_truI, sm_truB, sm_truN, sm_truL, sm_truT, sm_not, sm_ixL, sm_ixT, sm_at0, sm_at1, sm_at2, sm_lenL, sm_lenT, sm_abs, sm_int, sm_intB, sm_max2, sm_min2, sm_listL, sm_listT, sm_tupL, sm_tupT, sm_seqL, sm_seqT, sm_lsL, sm_rng1, sm_rng2, sm_rng3, sm_app, sm_rep1, sm_set1, sm_setN, sm_setC, sm_mixN, sm_mixC, sm_isi, sm_isi2, sm_item0, sm_item1, sm_iset0, sm_iset1, wipe_n, wipe_c, List.set_cons_zero, List.set_cons_succ, List.getElem?_cons_zero, List.getElem?_cons_succ, List.length_cons, List.length_nil, Nat.zero_le, Bool.false_eq_true, if_true, if_false, Bool.not_true, Bool.not_false, Bool.not_not, kq_nx]
  refine W.forL (fun ts env st => ∃ (c : Int) (s2 : Sl), env = [.br (.list (ns.map PyData.int)), .sh (.int c), s2] ∧ st = none ∧ 0 ≤ c ∧ c < 1000003 ∧ ∃ ms : List Int, ts = ms.map PyData.int) (ns.map PyData.int) ?_ ⟨7, _, rfl, rfl, by decide, by decide, ns, rfl⟩ ?_ ?_
  · simp only [e_var, e_rd, e_sr, e_cst, e_op1, e_op2, e_op3, e_chain, e_band, e_bor, e_ife, e_anil, e_acons, e_lst, e_tup, e_bi, e_call, e_calls, e_sget, ls_l, gV_sh, gR_sh, gR_br, gR_ow, gS_sh, gS_br, gO_ow, gF_ow, gF_sh, sm_some, w_asg1, w_asg, w_asgO, w_par, w_ret, w_drop, w_aug, w_mut, w_seti, w_augi, w_pop, w_frz, w_sset, w_ife, w_skip, w_brk, w_cont, w_seq, kq_ret, kq_bk, kq_ct, kl_bk, kl_ret, br_b, decide_eq_true_eq, decide_eq_false_iff_not, Bool.not_eq_true', Bool.not_eq_false', reduceCtorEq, true_implies, false_implies, forall_const, not_true_eq_false, not_false_eq_true, and_true, true_and, implies_true, sm_add, sm_addI, sm_addL, sm_addT, sm_cat, sm_sub, sm_mul, sm_div, sm_mod, sm_pow, sm_neg, sm_lt, sm_le, sm_gt, sm_ge, sm_eqI, sm_neI, sm_eqB, sm_neB, sm_isN, sm_isNotN, sm_truI, sm_truB, sm_truN, sm_truL, sm_truT, sm_not, sm_ixL, sm_ixT, sm_at0, sm_at1, sm_at2, sm_lenL, sm_lenT, sm_abs, sm_int, sm_intB, sm_max2, sm_min2, sm_listL, sm_listT, sm_tupL, sm_tupT, sm_seqL, sm_seqT, sm_lsL, sm_rng1, sm_rng2, sm_rng3, sm_app, sm_rep1, sm_set1, sm_setN, sm_setC, sm_mixN, sm_mixC, sm_isi, sm_isi2, sm_item0, sm_item1, sm_iset0, sm_iset1, wipe_n, wipe_c, List.set_cons_zero, List.set_cons_succ, List.getElem?_cons_zero, List.getElem?_cons_succ, List.length_cons, List.length_nil, Nat.zero_le, Bool.false_eq_true, if_true, if_false, Bool.not_true, Bool.not_false, Bool.not_not]
  · rintro env st ⟨c, s2, rfl, rfl, hc0, hc1, _⟩
    refine ⟨_, rfl, ?_⟩
    unfold zc__law_state ze__law_state
    refine e_comp_of (fun _ => true) (fun d => match d with | .int i => .int (if i < 0 then -i else i) | _ => d) ?_
    simp only [e_var, e_rd, e_sr, e_cst, e_op1, e_op2, e_op3, e_chain, e_band, e_bor, e_ife, e_anil, e_acons, e_lst, e_tup, e_bi, e_call, e_calls, e_sget, ls_l, gV_sh, gR_sh, gR_br, gR_ow, gS_sh, gS_br, gO_ow, gF_ow, gF_sh, sm_some, w_asg1, w_asg, w_asgO, w_par, w_ret, w_drop, w_aug, w_mut, w_seti, w_augi, w_pop, w_frz, w_sset, w_ife, w_skip, w_brk, w_cont, w_seq, kq_ret, kq_bk, kq_ct, kl_bk, kl_ret, br_b, decide_eq_true_eq, decide_eq_false_iff_not, Bool.not_eq_true', Bool.not_eq_false', reduceCtorEq, true_implies, false_implies, forall_const, not_true_eq_false, not_false_eq_true, and_true, true_and, implies_true, sm_add, sm_addI, sm_addL, sm_addT, sm_cat, sm_sub, sm_mul, sm_div, sm_mod, sm_pow, sm_neg, sm_lt, sm_le, sm_gt, sm_ge, sm_eqI, sm_neI, sm_eqB, sm_neB, sm_isN, sm_isNotN, sm_truI, sm_truB, sm_truN, sm_truL, sm_truT, sm_not, sm_ixL, sm_ixT, sm_at0, sm_at1, sm_at2, sm_lenL, sm_lenT, sm_abs, sm_int, sm_intB, sm_max2, sm_min2, sm_listL, sm_listT, sm_tupL, sm_tupT, sm_seqL, sm_seqT, sm_lsL, sm_rng1, sm_rng2, sm_rng3, sm_app, sm_rep1, sm_set1, sm_setN, sm_setC, sm_mixN, sm_mixC, sm_isi, sm_isi2, sm_item0, sm_item1, sm_iset0, sm_iset1, wipe_n, wipe_c, List.set_cons_zero, List.set_cons_succ, List.getElem?_cons_zero, List.getElem?_cons_succ, List.length_cons, List.length_nil, Nat.zero_le, Bool.false_eq_true, if_true, if_false, Bool.not_true, Bool.not_false, Bool.not_not]
    refine ⟨?_, ?_, ns.map (fun i => if i < 0 then -i else i), ?_, ?_⟩
    · rw [List.length_map]; have := hg.1; omega
    · intro t ht
      obtain ⟨i, hi, rfl⟩ := List.mem_map.mp ht
      simp only [e_var, e_rd, e_sr, e_cst, e_op1, e_op2, e_op3, e_chain, e_band, e_bor, e_ife, e_anil, e_acons, e_lst, e_tup, e_bi, e_call, e_calls, e_sget, ls_l, gV_sh, gR_sh, gR_br, gR_ow, gS_sh, gS_br, gO_ow, gF_ow, gF_sh, sm_some, w_asg1, w_asg, w_asgO, w_par, w_ret, w_drop, w_aug, w_mut, w_seti, w_augi, w_pop, w_frz, w_sset, w_ife, w_skip, w_brk, w_cont, w_seq, kq_ret, kq_bk, kq_ct, kl_bk, kl_ret, br_b, decide_eq_true_eq, decide_eq_false_iff_not, Bool.not_eq_true', Bool.not_eq_false', reduceCtorEq, true_implies, false_implies, forall_const, not_true_eq_false, not_false_eq_true, and_true, true_and, implies_true, sm_add, sm_addI, sm_addL, sm_addT, sm_cat, sm_sub, sm_mul, sm_div, sm_mod, sm_pow, sm_neg, sm_lt, sm_le, sm_gt, sm_ge, sm_eqI, sm_neI, sm_eqB, sm_neB, sm_isN, sm_isNotN, sm_truI, sm_truB, sm_truN, sm_truL, sm_truT, sm_not, sm_ixL, sm_ixT, sm_at0, sm_at1, sm_at2, sm_lenL, sm_lenT, sm_abs, sm_int, sm_intB, sm_max2, sm_min2, sm_listL, sm_listT, sm_tupL, sm_tupT, sm_seqL, sm_seqT, sm_lsL, sm_rng1, sm_rng2, sm_rng3, sm_app, sm_rep1, sm_set1, sm_setN, sm_setC, sm_mixN, sm_mixC, sm_isi, sm_isi2, sm_item0, sm_item1, sm_iset0, sm_iset1, wipe_n, wipe_c, List.set_cons_zero, List.set_cons_succ, List.getElem?_cons_zero, List.getElem?_cons_succ, List.length_cons, List.length_nil, Nat.zero_le, Bool.false_eq_true, if_true, if_false, Bool.not_true, Bool.not_false, Bool.not_not]
    · rw [List.filter_eq_self.mpr (fun _ _ => rfl), List.map_map, List.map_map]; rfl
    · refine ⟨c + 1, rfl, q _ ⟨_, _, rfl, fun n hx => ?_, by omega, by omega⟩⟩
      obtain ⟨i, _, rfl⟩ := List.mem_map.mp hx
      split <;> omega
  · rintro t ts env st ⟨c, s2, rfl, rfl, hc0, hc1, ms, hms⟩
    cases ms with
    | nil => cases hms
    | cons i ms =>
      cases hms
      simp only [e_var, e_rd, e_sr, e_cst, e_op1, e_op2, e_op3, e_chain, e_band, e_bor, e_ife, e_anil, e_acons, e_lst, e_tup, e_bi, e_call, e_calls, e_sget, ls_l, gV_sh, gR_sh, gR_br, gR_ow, gS_sh, gS_br, gO_ow, gF_ow, gF_sh, sm_some, w_asg1, w_asg, w_asgO, w_par, w_ret, w_drop, w_aug, w_mut, w_seti, w_augi, w_pop, w_frz, w_sset, w_ife, w_skip, w_brk, w_cont, w_seq, kq_ret, kq_bk, kq_ct, kl_bk, kl_ret, br_b, decide_eq_true_eq, decide_eq_false_iff_not, Bool.not_eq_true', Bool.not_eq_false', reduceCtorEq, true_implies, false_implies, forall_const, not_true_eq_false, not_false_eq_true, and_true, true_and, implies_true, sm_add, sm_addI, sm_addL, sm_addT, sm_cat, sm_sub, sm_mul, sm_div, sm_mod, sm_pow, sm_neg, sm_lt, sm_le, sm_gt, sm_ge, sm_eqI, sm_neI, sm_eqB, sm_neB, sm_isN, sm_isNotN, sm_truI, sm_truB, sm_truN, sm_truL, sm_truT, sm_not, sm_ixL, sm_ixT, sm_at0, sm_at1, sm_at2, sm_lenL, sm_lenT, sm_abs, sm_int, sm_intB, sm_max2, sm_min2, sm_listL, sm_listT, sm_tupL, sm_tupT, sm_seqL, sm_seqT, sm_lsL, sm_rng1, sm_rng2, sm_rng3, sm_app, sm_rep1, sm_set1, sm_setN, sm_setC, sm_mixN, sm_mixC, sm_isi, sm_isi2, sm_item0, sm_item1, sm_iset0, sm_iset1, wipe_n, wipe_c, List.set_cons_zero, List.set_cons_succ, List.getElem?_cons_zero, List.getElem?_cons_succ, List.length_cons, List.length_nil, Nat.zero_le, Bool.false_eq_true, if_true, if_false, Bool.not_true, Bool.not_false, Bool.not_not]
      exact ⟨mul_sm, by decide, _, _, rfl, rfl, Int.emod_nonneg _ (by decide), Int.emod_lt_of_pos _ (by decide), ms, rfl⟩
end ZC
namespace ZC
open PySem PySem.Spec PyProof.Rows L2 Z
def z_power  : ZS := (.seq (.asg (.one 2) (.cst (.int 1))) 
  (.seq (.whl (.op2 dGt (.rd 1) (.cst (.int 0))) 
  (.seq (.ife (.op2 dEq (.op2 dMod (.rd 1) (.cst (.int 2))) (.cst (.int 1))) 
  (.asg (.one 2) (.op2 dMul (.rd 2) (.rd 0))) .skip) 
  (.seq (.asg (.one 0) (.op2 dMul (.rd 0) (.rd 0))) 
  (.asg (.one 1) (.op2 dDiv (.rd 1) (.cst (.int 2))))))) 
  (.ret (.var 2))))
def z_prime_powers  : ZS := (.seq (.asgO 1 (.lst .anil)) 
  (.seq (.asg (.one 2) (.cst (.int 2))) 
  (.seq (.whl (.op2 dLe (.op2 dMul (.rd 2) (.rd 2)) (.rd 0)) 
  (.seq (.asg (.one 3) (.cst (.int 0))) 
  (.seq (.whl (.op2 dEq (.op2 dMod (.rd 0) (.rd 2)) (.cst (.int 0))) 
  (.par [(0, false), (3, false)] (.acons (.op2 dDiv (.rd 0) (.rd 2)) (.acons (.op2 dAdd (.rd 3) (.cst (.int 1))) .anil)))) 
  (.seq (.ife (.op2 dGt (.rd 3) (.cst (.int 0))) 
  (.mut 1 dApp (.tup (.acons (.var 2) (.acons (.var 3) .anil)))) .skip) 
  (.aug 2 dAddI (.ife (.op2 dEq (.rd 2) (.cst (.int 2))) (.cst (.int 1)) (.cst (.int 2)))))))) 
  (.ret (.op2 dAdd (.rd 1) (.ife (.op2 dGt (.rd 0) (.cst (.int 1))) (.lst (.acons (.tup (.acons (.var 0) (.acons (.cst (.int 1)) .anil))) .anil)) (.lst .anil)))))))
def z_power_by  : ZS := (.seq (.par [(3, false), (4, false)] (.acons (.op2 dMod (.cst (.int 1)) (.rd 2)) (.acons (.op2 dMod (.rd 0) (.rd 2)) .anil))) 
  (.seq (.whl (.op2 dGt (.rd 1) (.cst (.int 0))) 
  (.seq (.ife (.op2 dEq (.op2 dMod (.rd 1) (.cst (.int 2))) (.cst (.int 1))) 
  (.asg (.one 3) (.op2 dMod (.op2 dMul (.rd 3) (.rd 4)) (.rd 2))) .skip) 
  (.seq (.asg (.one 4) (.op2 dMod (.op2 dMul (.rd 4) (.rd 4)) (.rd 2))) 
  (.asg (.one 1) (.op2 dDiv (.rd 1) (.cst (.int 2))))))) 
  (.ret (.var 3))))
def z_coprimes (fs_prime_powers : List D → Option D) : ZS := (.seq (.asg (.one 1) (.var 0)) 
  (.seq (.forr (.cons (.one 2) (.cons (.one 3) .nil)) (.op1 dSeq (.call fs_prime_powers (.acons (.rd 0) .anil))) 
  (.asg (.one 1) (.op2 dMul (.op2 dDiv (.rd 1) (.rd 2)) (.op2 dSub (.rd 2) (.cst (.int 1)))))) 
  (.ret (.var 1))))
def z_greatest_order (fs_prime_powers : List D → Option D) (fs_power : List D → Option D) : ZS := (.seq (.asg (.one 1) (.cst (.int 1))) 
  (.seq (.forr (.cons (.one 2) (.cons (.one 3) .nil)) (.op1 dSeq (.call fs_prime_powers (.acons (.rd 0) .anil))) 
  (.seq (.asg (.one 4) (.op2 dMul (.op2 dSub (.rd 2) (.cst (.int 1))) (.call fs_power (.acons (.rd 2) (.acons (.op2 dSub (.rd 3) (.cst (.int 1))) .anil))))) 
  (.seq (.ife (.band (.op2 dEq (.rd 2) (.cst (.int 2))) (.op2 dGt (.rd 3) (.cst (.int 2)))) 
  (.asg (.one 4) (.op2 dDiv (.rd 4) (.cst (.int 2)))) .skip) 
  (.asg (.one 1) (.op2 dDiv (.op2 dMul (.rd 1) (.rd 4)) (.bi dGcd (.acons (.rd 1) (.acons (.rd 4) .anil)))))))) 
  (.ret (.var 1))))
def z_order_of (fs_greatest_order : List D → Option D) (fs_prime_powers : List D → Option D) (fs_power_by : List D → Option D) : ZS := (.seq (.asg (.one 2) (.call fs_greatest_order (.acons (.rd 1) .anil))) 
  (.seq (.forr (.cons (.one 3) (.cons (.one 4) .nil)) (.op1 dSeq (.call fs_prime_powers (.acons (.rd 2) .anil))) 
  (.whl (.band (.op2 dEq (.op2 dMod (.rd 2) (.rd 3)) (.cst (.int 0))) (.op2 dEq (.call fs_power_by (.acons (.rd 0) (.acons (.op2 dDiv (.rd 2) (.rd 3)) (.acons (.rd 1) .anil)))) (.op2 dMod (.cst (.int 1)) (.rd 1)))) 
  (.asg (.one 2) (.op2 dDiv (.rd 2) (.rd 3))))) 
  (.ret (.var 2))))
def z_symbol  : ZS := (.seq (.asg (.one 0) (.op2 dMod (.rd 0) (.rd 1))) 
  (.seq (.asg (.one 2) (.cst (.int 1))) 
  (.seq (.whl (.op2 dNe (.rd 0) (.cst (.int 0))) 
  (.seq (.whl (.op2 dEq (.op2 dMod (.rd 0) (.cst (.int 2))) (.cst (.int 0))) 
  (.seq (.asg (.one 0) (.op2 dDiv (.rd 0) (.cst (.int 2)))) 
  (.ife (.op2 dIn (.op2 dMod (.rd 1) (.cst (.int 8))) (.tup (.acons (.cst (.int 3)) (.acons (.cst (.int 5)) .anil)))) 
  (.asg (.one 2) (.op1 dNeg (.rd 2))) .skip))) 
  (.seq (.par [(0, false), (1, false)] (.acons (.var 1) (.acons (.var 0) .anil))) 
  (.seq (.ife (.band (.op2 dEq (.op2 dMod (.rd 0) (.cst (.int 4))) (.cst (.int 3))) (.op2 dEq (.op2 dMod (.rd 1) (.cst (.int 4))) (.cst (.int 3)))) 
  (.asg (.one 2) (.op1 dNeg (.rd 2))) .skip) 
  (.asg (.one 0) (.op2 dMod (.rd 0) (.rd 1))))))) 
  (.ret (.ife (.op2 dEq (.rd 1) (.cst (.int 1))) (.var 2) (.cst (.int 0)))))))
def z_entry  : ZS := (.seq (.par [(3, false), (4, false), (5, false)] (.acons (.op2 dMod (.cst (.int 1)) (.rd 2)) (.acons (.op2 dMod (.rd 0) (.rd 2)) (.acons (.cst (.int 1)) .anil)))) 
  (.seq (.whl (.op2 dNe (.rd 3) (.cst (.int 0))) 
  (.par [(3, false), (4, false), (5, false)] (.acons (.var 4) (.acons (.op2 dMod (.op2 dSub (.op2 dMul (.rd 0) (.rd 4)) (.op2 dMul (.rd 1) (.rd 3))) (.rd 2)) (.acons (.op2 dAdd (.rd 5) (.cst (.int 1))) .anil))))) 
  (.ret (.var 5))))
def z_round_of  : ZS := (.seq (.par [(3, false), (4, false), (5, false)] (.acons (.op2 dMod (.cst (.int 1)) (.rd 2)) (.acons (.op2 dMod (.rd 0) (.rd 2)) (.acons (.cst (.int 1)) .anil)))) 
  (.seq (.whl (.bor (.op2 dNe (.rd 3) (.cst (.int 0))) (.op2 dNe (.rd 4) (.op2 dMod (.cst (.int 1)) (.rd 2)))) 
  (.par [(3, false), (4, false), (5, false)] (.acons (.var 4) (.acons (.op2 dMod (.op2 dSub (.op2 dMul (.rd 0) (.rd 4)) (.op2 dMul (.rd 1) (.rd 3))) (.rd 2)) (.acons (.op2 dAdd (.rd 5) (.cst (.int 1))) .anil))))) 
  (.ret (.var 5))))
def z_count_roots (fs_prime_powers : List D → Option D) (fs_symbol : List D → Option D) : ZS := (.seq (.asg (.one 2) (.cst (.int 1))) 
  (.seq (.forr (.cons (.one 3) (.cons (.one 4) .nil)) (.op1 dSeq (.call fs_prime_powers (.acons (.rd 1) .anil))) 
  (.ife (.op2 dGt (.rd 3) (.cst (.int 2))) 
  (.asg (.one 2) (.op2 dMul (.rd 2) (.op2 dAdd (.cst (.int 1)) (.call fs_symbol (.acons (.rd 0) (.acons (.rd 3) .anil)))))) 
  (.ife (.op2 dEq (.rd 4) (.cst (.int 2))) 
  (.asg (.one 2) (.op2 dMul (.rd 2) (.ife (.op2 dEq (.op2 dMod (.rd 0) (.cst (.int 4))) (.cst (.int 1))) (.cst (.int 2)) (.cst (.int 0))))) 
  (.ife (.op2 dGt (.rd 4) (.cst (.int 2))) 
  (.asg (.one 2) (.op2 dMul (.rd 2) (.ife (.op2 dEq (.op2 dMod (.rd 0) (.cst (.int 8))) (.cst (.int 1))) (.cst (.int 4)) (.cst (.int 0))))) .skip)))) 
  (.ret (.var 2))))
def z_count_ones (fs_prime_powers : List D → Option D) (fs_power : List D → Option D) : ZS := (.seq (.asg (.one 2) (.cst (.int 1))) 
  (.seq (.forr (.cons (.one 3) (.cons (.one 4) .nil)) (.op1 dSeq (.call fs_prime_powers (.acons (.rd 1) .anil))) 
  (.ife (.op2 dGt (.rd 3) (.cst (.int 2))) 
  (.asg (.one 2) (.op2 dMul (.rd 2) (.bi dGcd (.acons (.rd 0) (.acons (.op2 dMul (.op2 dSub (.rd 3) (.cst (.int 1))) (.call fs_power (.acons (.rd 3) (.acons (.op2 dSub (.rd 4) (.cst (.int 1))) .anil)))) .anil))))) 
  (.ife (.band (.op2 dGt (.rd 4) (.cst (.int 1))) (.op2 dEq (.op2 dMod (.rd 0) (.cst (.int 2))) (.cst (.int 0)))) 
  (.asg (.one 2) (.op2 dMul (.rd 2) (.ife (.op2 dEq (.rd 4) (.cst (.int 2))) (.cst (.int 2)) (.op2 dMul (.cst (.int 2)) (.bi dGcd (.acons (.rd 0) (.acons (.op2 dShl (.cst (.int 1)) (.op2 dSub (.rd 4) (.cst (.int 2)))) .anil))))))) .skip))) 
  (.ret (.var 2))))
def z_lengths_of (fs_power : List D → Option D) (fs_order_of : List D → Option D) : ZS := (.seq (.asg (.one 2) (.var 0)) 
  (.seq (.whl (.op2 dGt (.bi dGcd (.acons (.rd 2) (.acons (.rd 1) .anil))) (.cst (.int 1))) 
  (.asg (.one 2) (.op2 dDiv (.rd 2) (.bi dGcd (.acons (.rd 2) (.acons (.rd 1) .anil)))))) 
  (.seq (.asg (.one 3) (.cst (.int 0))) 
  (.seq (.whl (.op2 dNe (.op2 dMod (.op2 dMul (.rd 2) (.call fs_power (.acons (.rd 1) (.acons (.rd 3) .anil)))) (.rd 0)) (.cst (.int 0))) 
  (.aug 3 dAddI (.cst (.int 1)))) 
  (.ret (.tup (.acons (.var 3) (.acons (.call fs_order_of (.acons (.rd 1) (.acons (.rd 2) .anil))) .anil))))))))
def z__law_gcd  : ZS := (.seq (.par [(0, false), (1, false)] (.acons (.bi dAbs (.acons (.rd 0) .anil)) (.acons (.bi dAbs (.acons (.rd 1) .anil)) .anil))) 
  (.seq (.whl (.op2 dGt (.rd 1) (.cst (.int 0))) 
  (.par [(0, false), (1, false)] (.acons (.var 1) (.acons (.op2 dMod (.bi dInt (.acons (.rd 0) .anil)) (.rd 1)) .anil)))) 
  (.ret (.var 0))))
def z__law_powers  : ZS := (.seq (.par [(1, false), (2, false)] (.acons (.lst .anil) (.acons (.cst (.int 2)) .anil))) 
  (.seq (.whl (.op2 dLe (.op2 dMul (.rd 2) (.rd 2)) (.rd 0)) 
  (.seq (.asg (.one 3) (.cst (.int 0))) 
  (.seq (.whl (.op2 dEq (.op2 dMod (.bi dInt (.acons (.rd 0) .anil)) (.rd 2)) (.cst (.int 0))) 
  (.par [(0, false), (3, false)] (.acons (.op2 dDiv (.rd 0) (.rd 2)) (.acons (.op2 dAdd (.rd 3) (.cst (.int 1))) .anil)))) 
  (.seq (.asg (.one 1) (.op2 dAdd (.rd 1) (.ife (.op2 dGt (.rd 3) (.cst (.int 0))) (.lst (.acons (.tup (.acons (.var 2) (.acons (.var 3) .anil))) .anil)) (.lst .anil)))) 
  (.asg (.one 2) (.op2 dAdd (.rd 2) (.cst (.int 1)))))))) 
  (.ret (.op2 dAdd (.rd 1) (.ife (.op2 dGt (.rd 0) (.cst (.int 1))) (.lst (.acons (.tup (.acons (.var 0) (.acons (.cst (.int 1)) .anil))) .anil)) (.lst .anil))))))
end ZC
namespace ZC
open PySem PySem.Spec PyProof.Rows L2 Z
def z__law_prime (fs__law_draw : D → List D → Option (D × D)) (fs__law_powers : List D → Option D) : ZS := (.seq (.asg (.one 2) (.op2 dAdd (.cst (.int 2)) (.calls 0 fs__law_draw (.acons (.op2 dSub (.rd 1) (.cst (.int 1))) .anil)))) 
  (.seq (.whl (.bor (.op2 dNe (.bi dLen (.acons (.call fs__law_powers (.acons (.rd 2) .anil)) .anil)) (.cst (.int 1))) (.op2 dGt (.op2 dIx (.op2 dIx (.call fs__law_powers (.acons (.rd 2) .anil)) (.cst (.int 0))) (.cst (.int 1))) (.cst (.int 1)))) 
  (.asg (.one 2) (.op2 dSub (.rd 2) (.cst (.int 1))))) 
  (.ret (.var 2))))
def z__law_without (fs__law_draw : D → List D → Option (D × D)) (fs__law_gcd : List D → Option D) : ZS := (.seq (.asg (.one 2) (.op2 dAdd (.cst (.int 1)) (.calls 0 fs__law_draw (.acons (.op2 dMul (.cst (.int 3)) (.rd 1)) .anil)))) 
  (.seq (.whl (.op2 dGt (.call fs__law_gcd (.acons (.rd 2) (.acons (.rd 1) .anil))) (.cst (.int 1))) 
  (.asg (.one 2) (.op2 dAdd (.rd 2) (.cst (.int 1))))) 
  (.ret (.var 2))))
end ZC
namespace Z
open PySem PySem.Spec PyProof.Rows L2
theorem Sz.pow {k : Nat} {a : Int} (h : Sz k a) : ∀ e : Nat, Sz (k * e + 1) (a ^ e)
  | 0 => by rw [Int.pow_zero]; unfold Sz; simp
  | e + 1 => by
    rw [Int.pow_succ]
    exact ((Sz.pow h e).mul h).mono (by rw [Nat.mul_succ]; omega)
end Z
namespace ZM
theorem book_len_log {n k : Nat} (h : n < 2 ^ k) : (book n).length ≤ k := by
  have h1 := ZC.book_len n n
  by_cases c : n ≤ 1
  · rw [book_one c]; simp
  · have : 2 ^ (bookGo n n).length < 2 ^ k := by omega
    have := (Nat.pow_lt_pow_iff_right (a := 2) (by decide)).mp this
    unfold book
    omega
end ZM
namespace ZC
open PySem PySem.Spec PyProof.Rows L2 Z ZM

/-! ### powers -/
theorem w_power {a : Int} {n k : Nat} (ha : Sz k a) (hk : k * (4 * n + 4) < 1000000) (hn : n < 1000000) : W z_power [.sh (.int a), .sh (.int n), .no] none (fun o => o = .ret (.int (a ^ n)) none) := by
  unfold z_power
  simp only [e_var, e_rd, e_sr, e_cst, e_op1, e_op2, e_op3, e_chain, e_band, e_bor, e_ife, e_anil, e_acons, e_lst, e_tup, e_bi, e_call, e_calls, e_sget, ls_l, gV_sh, gR_sh, gR_br, gR_ow, gS_sh, gS_br, gO_ow, gF_ow, gF_sh, sm_some, w_asg1, w_asg, w_asgO, w_par, w_ret, w_drop, w_aug, w_mut, w_seti, w_augi, w_pop, w_frz, w_sset, w_ife, w_skip, w_brk, w_cont, w_seq, kq_ret, kq_bk, kq_ct, kl_bk, kl_ret, br_b, decide_eq_true_eq, decide_eq_false_iff_not, Bool.not_eq_true', Bool.not_eq_false', reduceCtorEq, true_implies, false_implies, forall_const, not_true_eq_false, not_false_eq_true, and_true, true_and, implies_true, sm_add, sm_addI, sm_addL, sm_addT, sm_cat, sm_sub, sm_mul, sm_div, sm_mod, sm_pow, sm_neg, sm_lt, sm_le, sm_gt, sm_ge, sm_eqI, sm_neI, sm_eqB, sm_neB, sm_isN, sm_isNotN, sm_truI, sm_truB, sm_truN, sm_truL, sm_truT, sm_not, sm_ixL, sm_ixT, sm_at0, sm_at1, sm_at2, sm_lenL, sm_lenT, sm_abs, sm_int, sm_intB, sm_max2, sm_min2, sm_listL, sm_listT, sm_tupL, sm_tupT, sm_seqL, sm_seqT, sm_lsL, sm_rng1, sm_rng2, sm_rng3, sm_app, sm_rep1, sm_set1, sm_setN, sm_setC, sm_mixN, sm_mixC, sm_isi, sm_isi2, sm_item0, sm_item1, sm_iset0, sm_iset1, wipe_n, wipe_c, List.set_cons_zero, List.set_cons_succ, List.getElem?_cons_zero, List.getElem?_cons_succ, List.length_cons, List.length_nil, Nat.zero_le, Bool.false_eq_true, if_true, if_false, Bool.not_true, Bool.not_false, Bool.not_not, kq_nx]
  have big : ∀ e, e ≤ 2 * n + 1 → Sz 500000 (a ^ e) := fun e he => (ha.pow e).mono (by
    have : k * e ≤ k * (2 * n + 1) := Nat.mul_le_mul_left _ he
    have e2 : k * (4 * n + 4) = 2 * (k * (2 * n + 1)) + 2 * k := by grind
    omega)
  refine W.whl (fun m env st => ∃ (x e f : Nat), env = [.sh (.int (a ^ e)), .sh (.int x), .sh (.int (a ^ f))] ∧ st = none ∧ e * x + f = n ∧ e ≤ 2 * n + 1 ∧ m = x + 1) (n + 1) ⟨n, 1, 0, by rw [Int.pow_succ, Int.pow_zero, Int.one_mul], rfl, by omega, by omega, rfl⟩ ?_
  rintro m env st ⟨x, e, f, rfl, rfl, hx, he, rfl⟩
  simp only [e_var, e_rd, e_sr, e_cst, e_op1, e_op2, e_op3, e_chain, e_band, e_bor, e_ife, e_anil, e_acons, e_lst, e_tup, e_bi, e_call, e_calls, e_sget, ls_l, gV_sh, gR_sh, gR_br, gR_ow, gS_sh, gS_br, gO_ow, gF_ow, gF_sh, sm_some, w_asg1, w_asg, w_asgO, w_par, w_ret, w_drop, w_aug, w_mut, w_seti, w_augi, w_pop, w_frz, w_sset, w_ife, w_skip, w_brk, w_cont, w_seq, kq_ret, kq_bk, kq_ct, kl_bk, kl_ret, br_b, decide_eq_true_eq, decide_eq_false_iff_not, Bool.not_eq_true', Bool.not_eq_false', reduceCtorEq, true_implies, false_implies, forall_const, not_true_eq_false, not_false_eq_true, and_true, true_and, implies_true, sm_add, sm_addI, sm_addL, sm_addT, sm_cat, sm_sub, sm_mul, sm_div, sm_mod, sm_pow, sm_neg, sm_lt, sm_le, sm_gt, sm_ge, sm_eqI, sm_neI, sm_eqB, sm_neB, sm_isN, sm_isNotN, sm_truI, sm_truB, sm_truN, sm_truL, sm_truT, sm_not, sm_ixL, sm_ixT, sm_at0, sm_at1, sm_at2, sm_lenL, sm_lenT, sm_abs, sm_int, sm_intB, sm_max2, sm_min2, sm_listL, sm_listT, sm_tupL, sm_tupT, sm_seqL, sm_seqT, sm_lsL, sm_rng1, sm_rng2, sm_rng3, sm_app, sm_rep1, sm_set1, sm_setN, sm_setC, sm_mixN, sm_mixC, sm_isi, sm_isi2, sm_item0, sm_item1, sm_iset0, sm_iset1, wipe_n, wipe_c, List.set_cons_zero, List.set_cons_succ, List.getElem?_cons_zero, List.getElem?_cons_succ, List.length_cons, List.length_nil, Nat.zero_le, Bool.false_eq_true, if_true, if_false, Bool.not_true, Bool.not_false, Bool.not_not, kq_nx]
  refine ⟨fun h0 => ?_, fun h0 => ?_⟩
  · have hx0 : 0 < x := by omega
    have hen : e ≤ n := by
      have : e * 1 ≤ e * x := Nat.mul_le_mul_left _ hx0
      omega
    have s1 := big e (by omega)
    have s2 := big f (by omega)
    have hx2 : e * x = 2 * e * (x / 2) + e * (x % 2) := by
      conv => lhs; rw [← Nat.div_add_mod x 2]
      grind
    have esq : a ^ e * a ^ e = a ^ (2 * e) := by rw [← Int.pow_add]; congr 1; omega
    have ediv : (x : Int) / 2 = ((x / 2 : Nat) : Int) := by omega
    refine ⟨by decide, fun h1 => ⟨mul_ok s2 s1, mul_ok s1 s1, div_sm, ?_⟩, fun h1 => ⟨mul_ok s1 s1, div_sm, ?_⟩⟩
    · have hm : x % 2 = 1 := by omega
      refine ⟨x / 2 + 1, by omega, x / 2, 2 * e, f + e, ?_, rfl, ?_, by omega, rfl⟩
      · rw [esq, ediv, Int.pow_add]
      · rw [hm] at hx2; omega
    · have hm : x % 2 = 0 := by omega
      refine ⟨x / 2 + 1, by omega, x / 2, 2 * e, f, ?_, rfl, ?_, by omega, rfl⟩
      · rw [esq, ediv]
      · rw [hm] at hx2; omega
  · have : x = 0 := by omega
    subst this
    have : f = n := by omega
    subst this
    rfl
noncomputable def fs_power : List D → Option D := FV 2 3 z_power
theorem sm_power {a i : Int} {n k : Nat} {Q : D → Prop} (e : i = n) (ha : Sz k a) (hk : k * (4 * n + 4) < 1000000) (hn : n < 1000000) (q : Q (.int (a ^ n))) : Sm (fs_power [.int a, .int i]) Q := by
  subst e; exact FV.sm1 rfl (w_power ha hk hn) q

/-! ### books by odd numbers -/
theorem w_prime_powers {n : Nat} (h1 : 1 ≤ n) (hn : n < 1152921504606846976) : W z_prime_powers [.sh (.int n), .no, .no, .no] none (fun o => o = .ret (.list (bookD (book n))) none) := by
  have hlen : (book n).length ≤ 60 := book_len_log (by omega)
  unfold z_prime_powers
  simp only [e_var, e_rd, e_sr, e_cst, e_op1, e_op2, e_op3, e_chain, e_band, e_bor, e_ife, e_anil, e_acons, e_lst, e_tup, e_bi, e_call, e_calls, e_sget, ls_l, gV_sh, gR_sh, gR_br, gR_ow, gS_sh, gS_br, gO_ow, gF_ow, gF_sh, sm_some, w_asg1, w_asg, w_asgO, w_par, w_ret, w_drop, w_aug, w_mut, w_seti, w_augi, w_pop, w_frz, w_sset, w_ife, w_skip, w_brk, w_cont, w_seq, kq_ret, kq_bk, kq_ct, kl_bk, kl_ret, br_b, decide_eq_true_eq, decide_eq_false_iff_not, Bool.not_eq_true', Bool.not_eq_false', reduceCtorEq, true_implies, false_implies, forall_const, not_true_eq_false, not_false_eq_true, and_true, true_and, implies_true, sm_add, sm_addI, sm_addL, sm_addT, sm_cat, sm_sub, sm_mul, sm_div, sm_mod, sm_pow, sm_neg, sm_lt, sm_le, sm_gt, sm_ge, sm_eqI, sm_neI, sm_eqB, sm_neB, sm_isN, sm_isNotN, sm_truI, sm_truB, sm_truN, sm_truL, sm_truT, sm_not, sm_ixL, sm_ixT, sm_at0, sm_at1, sm_at2, sm_lenL, sm_lenT, sm_abs, sm_int, sm_intB, sm_max2, sm_min2, sm_listL, sm_listT, sm_tupL, sm_tupT, sm_seqL, sm_seqT, sm_lsL, sm_rng1, sm_rng2, sm_rng3, sm_app, sm_rep1, sm_set1, sm_setN, sm_setC, sm_mixN, sm_mixC, sm_isi, sm_isi2, sm_item0, sm_item1, sm_iset0, sm_iset1, wipe_n, wipe_c, List.set_cons_zero, List.set_cons_succ, List.getElem?_cons_zero, List.getElem?_cons_succ, List.length_cons, List.length_nil, Nat.zero_le, Bool.false_eq_true, if_true, if_false, Bool.not_true, Bool.not_false, Bool.not_not, kq_nx]
  refine W.whl (fun m env st => ∃ (k p : Nat) (pre : List (Nat × Nat)) (s3 : Sl), env = [.sh (.int k), .ow (.list (bookD pre)), .sh (.int p), s3] ∧ st = none ∧ 1 ≤ k ∧ k ≤ n ∧ pre ++ book k = book n ∧ 2 ≤ p ∧ p ≤ n + 2 ∧ (p = 2 ∨ p % 2 = 1) ∧ (∀ e, 2 ≤ e → e < p → ¬ e ∣ k) ∧ m = k + (n + 2 - p)) (n + (n + 2 - 2)) ⟨n, 2, [], _, rfl, rfl, h1, Nat.le_refl _, rfl, Nat.le_refl _, by omega, .inl rfl, fun e _ _ => by omega, rfl⟩ ?_
  rintro m env st ⟨k, p, pre, s3, rfl, rfl, hk1, hkn, hb, hp2, hpn, hpo, hd, rfl⟩
  have hpl : pre.length ≤ 60 := by
    have : pre.length ≤ (book n).length := by rw [← hb]; simp
    omega
  simp only [e_var, e_rd, e_sr, e_cst, e_op1, e_op2, e_op3, e_chain, e_band, e_bor, e_ife, e_anil, e_acons, e_lst, e_tup, e_bi, e_call, e_calls, e_sget, ls_l, gV_sh, gR_sh, gR_br, gR_ow, gS_sh, gS_br, gO_ow, gF_ow, gF_sh, sm_some, w_asg1, w_asg, w_asgO, w_par, w_ret, w_drop, w_aug, w_mut, w_seti, w_augi, w_pop, w_frz, w_sset, w_ife, w_skip, w_brk, w_cont, w_seq, kq_ret, kq_bk, kq_ct, kl_bk, kl_ret, br_b, decide_eq_true_eq, decide_eq_false_iff_not, Bool.not_eq_true', Bool.not_eq_false', reduceCtorEq, true_implies, false_implies, forall_const, not_true_eq_false, not_false_eq_true, and_true, true_and, implies_true, sm_add, sm_addI, sm_addL, sm_addT, sm_cat, sm_sub, sm_mul, sm_div, sm_mod, sm_pow, sm_neg, sm_lt, sm_le, sm_gt, sm_ge, sm_eqI, sm_neI, sm_eqB, sm_neB, sm_isN, sm_isNotN, sm_truI, sm_truB, sm_truN, sm_truL, sm_truT, sm_not, sm_ixL, sm_ixT, sm_at0, sm_at1, sm_at2, sm_lenL, sm_lenT, sm_abs, sm_int, sm_intB, sm_max2, sm_min2, sm_listL, sm_listT, sm_tupL, sm_tupT, sm_seqL, sm_seqT, sm_lsL, sm_rng1, sm_rng2, sm_rng3, sm_app, sm_rep1, sm_set1, sm_setN, sm_setC, sm_mixN, sm_mixC, sm_isi, sm_isi2, sm_item0, sm_item1, sm_iset0, sm_iset1, wipe_n, wipe_c, List.set_cons_zero, List.set_cons_succ, List.getElem?_cons_zero, List.getElem?_cons_succ, List.length_cons, List.length_nil, Nat.zero_le, Bool.false_eq_true, if_true, if_false, Bool.not_true, Bool.not_false, Bool.not_not]
  refine ⟨mul_sm, fun hle => ?_, fun hle => ?_⟩
  · have hle' : p * p ≤ k := by exact_mod_cast hle
    have hpk : p < k := by
      have : 2 * p ≤ p * p := Nat.mul_le_mul_right _ hp2
      omega
    rw [kq_nx]
    simp only [e_var, e_rd, e_sr, e_cst, e_op1, e_op2, e_op3, e_chain, e_band, e_bor, e_ife, e_anil, e_acons, e_lst, e_tup, e_bi, e_call, e_calls, e_sget, ls_l, gV_sh, gR_sh, gR_br, gR_ow, gS_sh, gS_br, gO_ow, gF_ow, gF_sh, sm_some, w_asg1, w_asg, w_asgO, w_par, w_ret, w_drop, w_aug, w_mut, w_seti, w_augi, w_pop, w_frz, w_sset, w_ife, w_skip, w_brk, w_cont, w_seq, kq_ret, kq_bk, kq_ct, kl_bk, kl_ret, br_b, decide_eq_true_eq, decide_eq_false_iff_not, Bool.not_eq_true', Bool.not_eq_false', reduceCtorEq, true_implies, false_implies, forall_const, not_true_eq_false, not_false_eq_true, and_true, true_and, implies_true, sm_add, sm_addI, sm_addL, sm_addT, sm_cat, sm_sub, sm_mul, sm_div, sm_mod, sm_pow, sm_neg, sm_lt, sm_le, sm_gt, sm_ge, sm_eqI, sm_neI, sm_eqB, sm_neB, sm_isN, sm_isNotN, sm_truI, sm_truB, sm_truN, sm_truL, sm_truT, sm_not, sm_ixL, sm_ixT, sm_at0, sm_at1, sm_at2, sm_lenL, sm_lenT, sm_abs, sm_int, sm_intB, sm_max2, sm_min2, sm_listL, sm_listT, sm_tupL, sm_tupT, sm_seqL, sm_seqT, sm_lsL, sm_rng1, sm_rng2, sm_rng3, sm_app, sm_rep1, sm_set1, sm_setN, sm_setC, sm_mixN, sm_mixC, sm_isi, sm_isi2, sm_item0, sm_item1, sm_iset0, sm_iset1, wipe_n, wipe_c, List.set_cons_zero, List.set_cons_succ, List.getElem?_cons_zero, List.getElem?_cons_succ, List.length_cons, List.length_nil, Nat.zero_le, Bool.false_eq_true, if_true, if_false, Bool.not_true, Bool.not_false, Bool.not_not]
    refine W.whl (fun m env st => ∃ (j v : Nat), env = [.sh (.int j), .ow (.list (bookD pre)), .sh (.int p), .sh (.int v)] ∧ st = none ∧ 1 ≤ j ∧ k = p ^ v * j ∧ m = j + 1) (k + 1) ⟨k, 0, rfl, rfl, hk1, by simp, rfl⟩ ?_
    rintro m env st ⟨j, v, rfl, rfl, hj1, hjk, rfl⟩
    have hjk' : j ≤ k := by
      have := Nat.le_mul_of_pos_left j (Nat.pow_pos (n := v) (show 0 < p by omega))
      omega
    simp only [e_var, e_rd, e_sr, e_cst, e_op1, e_op2, e_op3, e_chain, e_band, e_bor, e_ife, e_anil, e_acons, e_lst, e_tup, e_bi, e_call, e_calls, e_sget, ls_l, gV_sh, gR_sh, gR_br, gR_ow, gS_sh, gS_br, gO_ow, gF_ow, gF_sh, sm_some, w_asg1, w_asg, w_asgO, w_par, w_ret, w_drop, w_aug, w_mut, w_seti, w_augi, w_pop, w_frz, w_sset, w_ife, w_skip, w_brk, w_cont, w_seq, kq_ret, kq_bk, kq_ct, kl_bk, kl_ret, br_b, decide_eq_true_eq, decide_eq_false_iff_not, Bool.not_eq_true', Bool.not_eq_false', reduceCtorEq, true_implies, false_implies, forall_const, not_true_eq_false, not_false_eq_true, and_true, true_and, implies_true, sm_add, sm_addI, sm_addL, sm_addT, sm_cat, sm_sub, sm_mul, sm_div, sm_mod, sm_pow, sm_neg, sm_lt, sm_le, sm_gt, sm_ge, sm_eqI, sm_neI, sm_eqB, sm_neB, sm_isN, sm_isNotN, sm_truI, sm_truB, sm_truN, sm_truL, sm_truT, sm_not, sm_ixL, sm_ixT, sm_at0, sm_at1, sm_at2, sm_lenL, sm_lenT, sm_abs, sm_int, sm_intB, sm_max2, sm_min2, sm_listL, sm_listT, sm_tupL, sm_tupT, sm_seqL, sm_seqT, sm_lsL, sm_rng1, sm_rng2, sm_rng3, sm_app, sm_rep1, sm_set1, sm_setN, sm_setC, sm_mixN, sm_mixC, sm_isi, sm_isi2, sm_item0, sm_item1, sm_iset0, sm_iset1, wipe_n, wipe_c, List.set_cons_zero, List.set_cons_succ, List.getElem?_cons_zero, List.getElem?_cons_succ, List.length_cons, List.length_nil, Nat.zero_le, Bool.false_eq_true, if_true, if_false, Bool.not_true, Bool.not_false, Bool.not_not]
    refine ⟨by omega, fun h0 => ?_, fun h0 => ?_⟩
    · obtain ⟨i, rfl⟩ := md_iff.mp h0
      have hi1 : 1 ≤ i := by
        rcases i with _ | i
        · simp at hj1
        · omega
      have hlt : i < p * i := by
        have : 2 * i ≤ p * i := Nat.mul_le_mul_right _ hp2
        omega
      have hdiv : ((p * i : Nat) : Int) / (p : Int) = (i : Nat) := by
        rw [← Int.natCast_ediv, Nat.mul_div_cancel_left _ (by omega)]
      simp only [e_var, e_rd, e_sr, e_cst, e_op1, e_op2, e_op3, e_chain, e_band, e_bor, e_ife, e_anil, e_acons, e_lst, e_tup, e_bi, e_call, e_calls, e_sget, ls_l, gV_sh, gR_sh, gR_br, gR_ow, gS_sh, gS_br, gO_ow, gF_ow, gF_sh, sm_some, w_asg1, w_asg, w_asgO, w_par, w_ret, w_drop, w_aug, w_mut, w_seti, w_augi, w_pop, w_frz, w_sset, w_ife, w_skip, w_brk, w_cont, w_seq, kq_ret, kq_bk, kq_ct, kl_bk, kl_ret, br_b, decide_eq_true_eq, decide_eq_false_iff_not, Bool.not_eq_true', Bool.not_eq_false', reduceCtorEq, true_implies, false_implies, forall_const, not_true_eq_false, not_false_eq_true, and_true, true_and, implies_true, sm_add, sm_addI, sm_addL, sm_addT, sm_cat, sm_sub, sm_mul, sm_div, sm_mod, sm_pow, sm_neg, sm_lt, sm_le, sm_gt, sm_ge, sm_eqI, sm_neI, sm_eqB, sm_neB, sm_isN, sm_isNotN, sm_truI, sm_truB, sm_truN, sm_truL, sm_truT, sm_not, sm_ixL, sm_ixT, sm_at0, sm_at1, sm_at2, sm_lenL, sm_lenT, sm_abs, sm_int, sm_intB, sm_max2, sm_min2, sm_listL, sm_listT, sm_tupL, sm_tupT, sm_seqL, sm_seqT, sm_lsL, sm_rng1, sm_rng2, sm_rng3, sm_app, sm_rep1, sm_set1, sm_setN, sm_setC, sm_mixN, sm_mixC, sm_isi, sm_isi2, sm_item0, sm_item1, sm_iset0, sm_iset1, wipe_n, wipe_c, List.set_cons_zero, List.set_cons_succ, List.getElem?_cons_zero, List.getElem?_cons_succ, List.length_cons, List.length_nil, Nat.zero_le, Bool.false_eq_true, if_true, if_false, Bool.not_true, Bool.not_false, Bool.not_not, hdiv]
      exact ⟨div_sm, i + 1, by omega, i, v + 1, rfl, rfl, hi1, by rw [Nat.pow_succ, Nat.mul_assoc]; exact hjk, rfl⟩
    · have hdv : ¬ p ∣ j := fun c => h0 (md_iff.mpr c)
      obtain ⟨ev, er⟩ := va_of hp2 hk1 hjk hdv
      have step : ∀ q, q ∣ j → 2 ≤ q → ¬ q < p + 1 := by
        intro q hq h2 hlt
        by_cases c : q = p
        · subst c; exact hdv hq
        · exact hd q h2 (by omega) (by rw [hjk]; exact Nat.dvd_trans hq (Nat.dvd_mul_left _ _))
      have nodiv : ∀ q, q = (if p = 2 then p + 1 else p + 2) → ∀ e, 2 ≤ e → e < q → ¬ e ∣ j := by
        intro q hq e e1 e2 e3
        by_cases c : p = 2
        · rw [if_pos c] at hq
          exact step e e3 e1 (by omega)
        · rw [if_neg c] at hq
          by_cases c2 : e = p + 1
          · subst c2
            have : 2 ∣ j := Nat.dvd_trans (by omega) e3
            exact step 2 this (by omega) (by omega)
          · exact step e e3 e1 (by omega)
      rw [kq_nx]
      refine W.cut (P := fun o => ∃ (pre' : List (Nat × Nat)), o = .nx [.sh (.int j), .ow (.list (bookD pre')), .sh (.int p), .sh (.int v)] none ∧ pre' ++ book j = book n) ?_ ?_
      · simp only [e_var, e_rd, e_sr, e_cst, e_op1, e_op2, e_op3, e_chain, e_band, e_bor, e_ife, e_anil, e_acons, e_lst, e_tup, e_bi, e_call, e_calls, e_sget, ls_l, gV_sh, gR_sh, gR_br, gR_ow, gS_sh, gS_br, gO_ow, gF_ow, gF_sh, sm_some, w_asg1, w_asg, w_asgO, w_par, w_ret, w_drop, w_aug, w_mut, w_seti, w_augi, w_pop, w_frz, w_sset, w_ife, w_skip, w_brk, w_cont, w_seq, kq_ret, kq_bk, kq_ct, kl_bk, kl_ret, br_b, decide_eq_true_eq, decide_eq_false_iff_not, Bool.not_eq_true', Bool.not_eq_false', reduceCtorEq, true_implies, false_implies, forall_const, not_true_eq_false, not_false_eq_true, and_true, true_and, implies_true, sm_add, sm_addI, sm_addL, sm_addT, sm_cat, sm_sub, sm_mul, sm_div, sm_mod, sm_pow, sm_neg, sm_lt, sm_le, sm_gt, sm_ge, sm_eqI, sm_neI, sm_eqB, sm_neB, sm_isN, sm_isNotN, sm_truI, sm_truB, sm_truN, sm_truL, sm_truT, sm_not, sm_ixL, sm_ixT, sm_at0, sm_at1, sm_at2, sm_lenL, sm_lenT, sm_abs, sm_int, sm_intB, sm_max2, sm_min2, sm_listL, sm_listT, sm_tupL, sm_tupT, sm_seqL, sm_seqT, sm_lsL, sm_rng1, sm_rng2, sm_rng3, sm_app, sm_rep1, sm_set1, sm_setN, sm_setC, sm_mixN, sm_mixC, sm_isi, sm_isi2, sm_item0, sm_item1, sm_iset0, sm_iset1, wipe_n, wipe_c, List.set_cons_zero, List.set_cons_succ, List.getElem?_cons_zero, List.getElem?_cons_succ, List.length_cons, List.length_nil, Nat.zero_le, Bool.false_eq_true, if_true, if_false, Bool.not_true, Bool.not_false, Bool.not_not]
        refine ⟨fun hv => ⟨by omega, by rw [bookD_len]; omega, pre ++ [(p, v)], by rw [← bookD_app]; rfl, ?_⟩, fun hv => ⟨pre, rfl, ?_⟩⟩
        · have hpk2 : p ∣ k := by
            rw [hjk]
            obtain ⟨w, rfl⟩ : ∃ w, v = w + 1 := ⟨v - 1, by omega⟩
            rw [Nat.pow_succ]
            exact Nat.dvd_trans (Nat.dvd_mul_left p (p ^ w)) (Nat.dvd_mul_right _ _)
          have hlf : lf k = p := lf_eq (by omega) hp2 hpk2 hd
          rw [← hb, book_step (n := k) (by omega), hlf, ev, er]; simp
        · have hv0 : v = 0 := by omega
          subst hv0
          have : k = j := by simpa using hjk
          rw [← this]; exact hb
      · rintro o ⟨pre', rfl, hb'⟩
        rw [kq_nx]
        simp only [e_var, e_rd, e_sr, e_cst, e_op1, e_op2, e_op3, e_chain, e_band, e_bor, e_ife, e_anil, e_acons, e_lst, e_tup, e_bi, e_call, e_calls, e_sget, ls_l, gV_sh, gR_sh, gR_br, gR_ow, gS_sh, gS_br, gO_ow, gF_ow, gF_sh, sm_some, w_asg1, w_asg, w_asgO, w_par, w_ret, w_drop, w_aug, w_mut, w_seti, w_augi, w_pop, w_frz, w_sset, w_ife, w_skip, w_brk, w_cont, w_seq, kq_ret, kq_bk, kq_ct, kl_bk, kl_ret, br_b, decide_eq_true_eq, decide_eq_false_iff_not, Bool.not_eq_true', Bool.not_eq_false', reduceCtorEq, true_implies, false_implies, forall_const, not_true_eq_false, not_false_eq_true, and_true, true_and, implies_true, sm_add, sm_addI, sm_addL, sm_addT, sm_cat, sm_sub, sm_mul, sm_div, sm_mod, sm_pow, sm_neg, sm_lt, sm_le, sm_gt, sm_ge, sm_eqI, sm_neI, sm_eqB, sm_neB, sm_isN, sm_isNotN, sm_truI, sm_truB, sm_truN, sm_truL, sm_truT, sm_not, sm_ixL, sm_ixT, sm_at0, sm_at1, sm_at2, sm_lenL, sm_lenT, sm_abs, sm_int, sm_intB, sm_max2, sm_min2, sm_listL, sm_listT, sm_tupL, sm_tupT, sm_seqL, sm_seqT, sm_lsL, sm_rng1, sm_rng2, sm_rng3, sm_app, sm_rep1, sm_set1, sm_setN, sm_setC, sm_mixN, sm_mixC, sm_isi, sm_isi2, sm_item0, sm_item1, sm_iset0, sm_iset1, wipe_n, wipe_c, List.set_cons_zero, List.set_cons_succ, List.getElem?_cons_zero, List.getElem?_cons_succ, List.length_cons, List.length_nil, Nat.zero_le, Bool.false_eq_true, if_true, if_false, Bool.not_true, Bool.not_false, Bool.not_not]
        refine ⟨fun h2 => ?_, fun h2 => ?_⟩
        · have : p = 2 := by omega
          exact ⟨j + (n + 2 - (p + 1)), by omega, j, p + 1, pre', _, rfl, rfl, hj1, by omega, hb', by omega, by omega, by omega, nodiv _ (by rw [if_pos this]), rfl⟩
        · have : ¬ p = 2 := by omega
          exact ⟨j + (n + 2 - (p + 2)), by omega, j, p + 2, pre', _, rfl, rfl, hj1, by omega, hb', by omega, by omega, by omega, nodiv _ (by rw [if_neg this]), rfl⟩
  · have hlt : k < p * p := by
      have : ¬ p * p ≤ k := fun c => hle (by exact_mod_cast c)
      omega
    rw [kq_nx]
    simp only [e_var, e_rd, e_sr, e_cst, e_op1, e_op2, e_op3, e_chain, e_band, e_bor, e_ife, e_anil, e_acons, e_lst, e_tup, e_bi, e_call, e_calls, e_sget, ls_l, gV_sh, gR_sh, gR_br, gR_ow, gS_sh, gS_br, gO_ow, gF_ow, gF_sh, sm_some, w_asg1, w_asg, w_asgO, w_par, w_ret, w_drop, w_aug, w_mut, w_seti, w_augi, w_pop, w_frz, w_sset, w_ife, w_skip, w_brk, w_cont, w_seq, kq_ret, kq_bk, kq_ct, kl_bk, kl_ret, br_b, decide_eq_true_eq, decide_eq_false_iff_not, Bool.not_eq_true', Bool.not_eq_false', reduceCtorEq, true_implies, false_implies, forall_const, not_true_eq_false, not_false_eq_true, and_true, true_and, implies_true, sm_add, sm_addI, sm_addL, sm_addT, sm_cat, sm_sub, sm_mul, sm_div, sm_mod, sm_pow, sm_neg, sm_lt, sm_le, sm_gt, sm_ge, sm_eqI, sm_neI, sm_eqB, sm_neB, sm_isN, sm_isNotN, sm_truI, sm_truB, sm_truN, sm_truL, sm_truT, sm_not, sm_ixL, sm_ixT, sm_at0, sm_at1, sm_at2, sm_lenL, sm_lenT, sm_abs, sm_int, sm_intB, sm_max2, sm_min2, sm_listL, sm_listT, sm_tupL, sm_tupT, sm_seqL, sm_seqT, sm_lsL, sm_rng1, sm_rng2, sm_rng3, sm_app, sm_rep1, sm_set1, sm_setN, sm_setC, sm_mixN, sm_mixC, sm_isi, sm_isi2, sm_item0, sm_item1, sm_iset0, sm_iset1, wipe_n, wipe_c, List.set_cons_zero, List.set_cons_succ, List.getElem?_cons_zero, List.getElem?_cons_succ, List.length_cons, List.length_nil, Nat.zero_le, Bool.false_eq_true, if_true, if_false, Bool.not_true, Bool.not_false, Bool.not_not]
    refine ⟨fun h2 => ⟨by omega, by omega, by rw [bookD_len]; omega, ?_⟩, fun h2 => ⟨by rw [bookD_len]; omega, ?_⟩⟩
    · have hk2 : 2 ≤ k := by omega
      have hP : Pr k := by
        by_cases c : Pr k
        · exact c
        · obtain ⟨a, b, e⟩ := small_div hk2 c
          exact absurd b (hd _ a.1 (mul_self_lt (by omega)))
      have hlf : lf k = k := lf_eq hk2 hk2 (Nat.dvd_refl _) hP.2
      obtain ⟨ev, er⟩ := va_of (p := k) (n := k) (v := 1) (m := 1) hk2 (by omega) (by simp) (fun c => by have := Nat.le_of_dvd (by omega) c; omega)
      rw [← hb, book_step hk2, hlf, ev, er, book_one (by omega), ← bookD_app]; rfl
    · have : k = 1 := by omega
      subst this
      rw [book_one (by omega), List.append_nil] at hb
      rw [hb, List.append_nil]
noncomputable def fs_prime_powers : List D → Option D := FV 1 4 z_prime_powers
theorem sm_prime_powers {i : Int} {n : Nat} {Q : D → Prop} (e : i = n) (h1 : 1 ≤ n) (hn : n < 1152921504606846976) (q : Q (.list (bookD (book n)))) : Sm (fs_prime_powers [.int i]) Q := by
  subst e; exact FV.sm1 rfl (w_prime_powers h1 hn) q
end ZC
namespace ZC
open PySem PySem.Spec PyProof.Rows L2 Z ZM
/-! ### the common divisor (math.gcd) -/
theorem sm_gcdB {a b : Nat} {Q : D → Prop} (q : Q (.int (Nat.gcd a b : Nat))) : Sm (dGcd [.int a, .int b]) Q := by
  unfold dGcd
  exact sm_some.mpr (by rw [Int.natAbs_natCast, Int.natAbs_natCast]; exact q)
theorem w_power_by {a b c : Int} (hc : 0 < c) (hb : 0 ≤ b) (h62 : c < 4611686018427387904) : W z_power_by [.sh (.int a), .sh (.int b), .sh (.int c), .no, .no] none (fun o => o = .ret (.int (a ^ b.toNat % c)) none) := w_power_rest hc hb h62
noncomputable def fs_power_by : List D → Option D := FV 3 5 z_power_by
theorem sm_power_by {a b c : Int} {Q : D → Prop} (hb : 0 ≤ b) (hc : 0 < c) (h62 : c < 4611686018427387904) (q : Q (.int (a ^ b.toNat % c))) : Sm (fs_power_by [.int a, .int b, .int c]) Q := FV.sm1 rfl (w_power_by hc hb h62) q
theorem bookD_cons {p v : Nat} {l : List (Nat × Nat)} : bookD ((p, v) :: l) = .tuple [.int (p : Nat), .int (v : Nat)] :: bookD l := rfl
/-- a loop over a book: what is left is the book of what is left -/
theorem book_left {k : Nat} {p v : Nat} {r : List (Nat × Nat)} (hk : 1 ≤ k) (h : book k = (p, v) :: r) : Pr p ∧ 1 ≤ v ∧ 1 ≤ vr p k ∧ k = p ^ v * vr p k ∧ book (vr p k) = r ∧ ¬ p ∣ vr p k := by
  have h2 : 2 ≤ k := by
    apply Nat.lt_of_not_le
    intro c
    rw [book_one (by omega)] at h
    cases h
  have hs := lf_spec h2
  rw [book_step h2] at h
  simp only [List.cons.injEq, Prod.mk.injEq] at h
  obtain ⟨⟨e1, e2⟩, e3⟩ := h
  rw [e1] at e2 e3
  obtain ⟨a, b, d⟩ := va_spec (p := p) (n := k) (by rw [← e1]; exact hs.1) hk
  rw [e2] at a
  exact ⟨e1 ▸ lf_pr h2, by rw [← e2, ← e1]; exact va_pos hs.1 hk hs.2.1, d, a, e3, b⟩
theorem w_coprimes {n : Nat} (h1 : 1 ≤ n) (hn : n < 1152921504606846976) : W (z_coprimes fs_prime_powers) [.sh (.int n), .no, .no, .no] none (fun o => o = .ret (.int (phi n : Nat)) none) := by
  unfold z_coprimes
  simp only [e_var, e_rd, e_sr, e_cst, e_op1, e_op2, e_op3, e_chain, e_band, e_bor, e_ife, e_anil, e_acons, e_lst, e_tup, e_bi, e_call, e_calls, e_sget, ls_l, gV_sh, gR_sh, gR_br, gR_ow, gS_sh, gS_br, gO_ow, gF_ow, gF_sh, sm_some, w_asg1, w_asg, w_asgO, w_par, w_ret, w_drop, w_aug, w_mut, w_seti, w_augi, w_pop, w_frz, w_sset, w_ife, w_skip, w_brk, w_cont, w_seq, kq_ret, kq_bk, kq_ct, kl_bk, kl_ret, br_b, decide_eq_true_eq, decide_eq_false_iff_not, Bool.not_eq_true', Bool.not_eq_false', reduceCtorEq, true_implies, false_implies, forall_const, not_true_eq_false, not_false_eq_true, and_true, true_and, implies_true, sm_add, sm_addI, sm_addL, sm_addT, sm_cat, sm_sub, sm_mul, sm_div, sm_mod, sm_pow, sm_neg, sm_lt, sm_le, sm_gt, sm_ge, sm_eqI, sm_neI, sm_eqB, sm_neB, sm_isN, sm_isNotN, sm_truI, sm_truB, sm_truN, sm_truL, sm_truT, sm_not, sm_ixL, sm_ixT, sm_at0, sm_at1, sm_at2, sm_lenL, sm_lenT, sm_abs, sm_int, sm_intB, sm_max2, sm_min2, sm_listL, sm_listT, sm_tupL, sm_tupT, sm_seqL, sm_seqT, sm_lsL, sm_rng1, sm_rng2, sm_rng3, sm_app, sm_rep1, sm_set1, sm_setN, sm_setC, sm_mixN, sm_mixC, sm_isi, sm_isi2, sm_item0, sm_item1, sm_iset0, sm_iset1, wipe_n, wipe_c, List.set_cons_zero, List.set_cons_succ, List.getElem?_cons_zero, List.getElem?_cons_succ, List.length_cons, List.length_nil, Nat.zero_le, Bool.false_eq_true, if_true, if_false, Bool.not_true, Bool.not_false, Bool.not_not, kq_nx]
  refine W.forL (fun ts env st => ∃ (k A : Nat) (s2 s3 : Sl), env = [.sh (.int n), .sh (.int (A * k : Nat)), s2, s3] ∧ st = none ∧ ts = bookD (book k) ∧ 1 ≤ k ∧ k ≤ n ∧ A * k ≤ n ∧ A * phi k = phi n) (bookD (book n)) ?_ ⟨n, 1, _, _, by rw [Nat.one_mul], rfl, rfl, h1, Nat.le_refl _, by omega, by omega⟩ ?_ ?_
  · simp only [e_var, e_rd, e_sr, e_cst, e_op1, e_op2, e_op3, e_chain, e_band, e_bor, e_ife, e_anil, e_acons, e_lst, e_tup, e_bi, e_call, e_calls, e_sget, ls_l, gV_sh, gR_sh, gR_br, gR_ow, gS_sh, gS_br, gO_ow, gF_ow, gF_sh, sm_some, w_asg1, w_asg, w_asgO, w_par, w_ret, w_drop, w_aug, w_mut, w_seti, w_augi, w_pop, w_frz, w_sset, w_ife, w_skip, w_brk, w_cont, w_seq, kq_ret, kq_bk, kq_ct, kl_bk, kl_ret, br_b, decide_eq_true_eq, decide_eq_false_iff_not, Bool.not_eq_true', Bool.not_eq_false', reduceCtorEq, true_implies, false_implies, forall_const, not_true_eq_false, not_false_eq_true, and_true, true_and, implies_true, sm_add, sm_addI, sm_addL, sm_addT, sm_cat, sm_sub, sm_mul, sm_div, sm_mod, sm_pow, sm_neg, sm_lt, sm_le, sm_gt, sm_ge, sm_eqI, sm_neI, sm_eqB, sm_neB, sm_isN, sm_isNotN, sm_truI, sm_truB, sm_truN, sm_truL, sm_truT, sm_not, sm_ixL, sm_ixT, sm_at0, sm_at1, sm_at2, sm_lenL, sm_lenT, sm_abs, sm_int, sm_intB, sm_max2, sm_min2, sm_listL, sm_listT, sm_tupL, sm_tupT, sm_seqL, sm_seqT, sm_lsL, sm_rng1, sm_rng2, sm_rng3, sm_app, sm_rep1, sm_set1, sm_setN, sm_setC, sm_mixN, sm_mixC, sm_isi, sm_isi2, sm_item0, sm_item1, sm_iset0, sm_iset1, wipe_n, wipe_c, List.set_cons_zero, List.set_cons_succ, List.getElem?_cons_zero, List.getElem?_cons_succ, List.length_cons, List.length_nil, Nat.zero_le, Bool.false_eq_true, if_true, if_false, Bool.not_true, Bool.not_false, Bool.not_not]
    refine sm_prime_powers rfl h1 hn ?_
    (try simp only [e_var, e_rd, e_sr, e_cst, e_op1, e_op2, e_op3, e_chain, e_band, e_bor, e_ife, e_anil, e_acons, e_lst, e_tup, e_bi, e_call, e_calls, e_sget, ls_l, gV_sh, gR_sh, gR_br, gR_ow, gS_sh, gS_br, gO_ow, gF_ow, gF_sh, sm_some, w_asg1, w_asg, w_asgO, w_par, w_ret, w_drop, w_aug, w_mut, w_seti, w_augi, w_pop, w_frz, w_sset, w_ife, w_skip, w_brk, w_cont, w_seq, kq_ret, kq_bk, kq_ct, kl_bk, kl_ret, br_b, decide_eq_true_eq, decide_eq_false_iff_not, Bool.not_eq_true', Bool.not_eq_false', reduceCtorEq, true_implies, false_implies, forall_const, not_true_eq_false, not_false_eq_true, and_true, true_and, implies_true, sm_add, sm_addI, sm_addL, sm_addT, sm_cat, sm_sub, sm_mul, sm_div, sm_mod, sm_pow, sm_neg, sm_lt, sm_le, sm_gt, sm_ge, sm_eqI, sm_neI, sm_eqB, sm_neB, sm_isN, sm_isNotN, sm_truI, sm_truB, sm_truN, sm_truL, sm_truT, sm_not, sm_ixL, sm_ixT, sm_at0, sm_at1, sm_at2, sm_lenL, sm_lenT, sm_abs, sm_int, sm_intB, sm_max2, sm_min2, sm_listL, sm_listT, sm_tupL, sm_tupT, sm_seqL, sm_seqT, sm_lsL, sm_rng1, sm_rng2, sm_rng3, sm_app, sm_rep1, sm_set1, sm_setN, sm_setC, sm_mixN, sm_mixC, sm_isi, sm_isi2, sm_item0, sm_item1, sm_iset0, sm_iset1, wipe_n, wipe_c, List.set_cons_zero, List.set_cons_succ, List.getElem?_cons_zero, List.getElem?_cons_succ, List.length_cons, List.length_nil, Nat.zero_le, Bool.false_eq_true, if_true, if_false, Bool.not_true, Bool.not_false, Bool.not_not])
  · rintro env st ⟨k, A, s2, s3, rfl, rfl, hts, hk1, hkn, hAn, hA⟩
    simp only [e_var, e_rd, e_sr, e_cst, e_op1, e_op2, e_op3, e_chain, e_band, e_bor, e_ife, e_anil, e_acons, e_lst, e_tup, e_bi, e_call, e_calls, e_sget, ls_l, gV_sh, gR_sh, gR_br, gR_ow, gS_sh, gS_br, gO_ow, gF_ow, gF_sh, sm_some, w_asg1, w_asg, w_asgO, w_par, w_ret, w_drop, w_aug, w_mut, w_seti, w_augi, w_pop, w_frz, w_sset, w_ife, w_skip, w_brk, w_cont, w_seq, kq_ret, kq_bk, kq_ct, kl_bk, kl_ret, br_b, decide_eq_true_eq, decide_eq_false_iff_not, Bool.not_eq_true', Bool.not_eq_false', reduceCtorEq, true_implies, false_implies, forall_const, not_true_eq_false, not_false_eq_true, and_true, true_and, implies_true, sm_add, sm_addI, sm_addL, sm_addT, sm_cat, sm_sub, sm_mul, sm_div, sm_mod, sm_pow, sm_neg, sm_lt, sm_le, sm_gt, sm_ge, sm_eqI, sm_neI, sm_eqB, sm_neB, sm_isN, sm_isNotN, sm_truI, sm_truB, sm_truN, sm_truL, sm_truT, sm_not, sm_ixL, sm_ixT, sm_at0, sm_at1, sm_at2, sm_lenL, sm_lenT, sm_abs, sm_int, sm_intB, sm_max2, sm_min2, sm_listL, sm_listT, sm_tupL, sm_tupT, sm_seqL, sm_seqT, sm_lsL, sm_rng1, sm_rng2, sm_rng3, sm_app, sm_rep1, sm_set1, sm_setN, sm_setC, sm_mixN, sm_mixC, sm_isi, sm_isi2, sm_item0, sm_item1, sm_iset0, sm_iset1, wipe_n, wipe_c, List.set_cons_zero, List.set_cons_succ, List.getElem?_cons_zero, List.getElem?_cons_succ, List.length_cons, List.length_nil, Nat.zero_le, Bool.false_eq_true, if_true, if_false, Bool.not_true, Bool.not_false, Bool.not_not, kq_nx]
    have hb : book k = [] := by
      cases h : book k with
      | nil => rfl
      | cons q r => rw [h] at hts; obtain ⟨p, v⟩ := q; cases hts
    have hk : k = 1 := by
      by_cases c : k = 1
      · exact c
      · rw [book_step (by omega)] at hb; cases hb
    subst hk
    have : phi 1 = 1 := by unfold phi; rw [book_one (by omega)]; rfl
    rw [← hA, this]
  · rintro t ts env st ⟨k, A, s2, s3, rfl, rfl, hts, hk1, hkn, hAn, hA⟩
    cases hb : book k with
    | nil => rw [hb] at hts; cases hts
    | cons q r =>
      obtain ⟨p, v⟩ := q
      rw [hb] at hts
      cases hts
      obtain ⟨hp, hv, hr1, hkv, hr, hnd⟩ := book_left hk1 hb
      generalize hk' : vr p k = k' at *
      have hp1 := hp.1
      obtain ⟨w, rfl⟩ : ∃ w, v = w + 1 := ⟨v - 1, by omega⟩
      have hpk : p ≤ n := by
        have : p ∣ k := by rw [hkv, Nat.pow_succ]; exact Nat.dvd_trans (Nat.dvd_mul_left p (p ^ w)) (Nat.dvd_mul_right _ _)
        exact Nat.le_trans (Nat.le_of_dvd (by omega) this) hkn
      have e1 : A * k = p * (A * (p ^ w * k')) := by rw [hkv, Nat.pow_succ]; grind
      have ediv : ((A * k : Nat) : Int) / (p : Int) = ((A * (p ^ w * k') : Nat) : Int) := by
        rw [← Int.natCast_ediv, e1, Nat.mul_div_cancel_left _ hp.pos]
      have hle : A * (p ^ w * k') ≤ n := by
        have : 1 * (A * (p ^ w * k')) ≤ p * (A * (p ^ w * k')) := Nat.mul_le_mul_right _ (by omega)
        omega
      have hp1c : ((p : Int) - 1) = ((p - 1 : Nat) : Int) := by omega
      have hprod : A * (p ^ w * k') * (p - 1) = A * phP p (w + 1) * k' := by
        unfold phP; rw [Nat.add_sub_cancel]; grind
      have hle2 : A * phP p (w + 1) * k' ≤ n := by
        rw [← hprod]
        have : A * (p ^ w * k') * (p - 1) ≤ A * (p ^ w * k') * p := Nat.mul_le_mul_left _ (by omega)
        have e3 : A * (p ^ w * k') * p = A * k := by rw [e1, Nat.mul_comm]
        omega
      simp only [e_var, e_rd, e_sr, e_cst, e_op1, e_op2, e_op3, e_chain, e_band, e_bor, e_ife, e_anil, e_acons, e_lst, e_tup, e_bi, e_call, e_calls, e_sget, ls_l, gV_sh, gR_sh, gR_br, gR_ow, gS_sh, gS_br, gO_ow, gF_ow, gF_sh, sm_some, w_asg1, w_asg, w_asgO, w_par, w_ret, w_drop, w_aug, w_mut, w_seti, w_augi, w_pop, w_frz, w_sset, w_ife, w_skip, w_brk, w_cont, w_seq, kq_ret, kq_bk, kq_ct, kl_bk, kl_ret, br_b, decide_eq_true_eq, decide_eq_false_iff_not, Bool.not_eq_true', Bool.not_eq_false', reduceCtorEq, true_implies, false_implies, forall_const, not_true_eq_false, not_false_eq_true, and_true, true_and, implies_true, sm_add, sm_addI, sm_addL, sm_addT, sm_cat, sm_sub, sm_mul, sm_div, sm_mod, sm_pow, sm_neg, sm_lt, sm_le, sm_gt, sm_ge, sm_eqI, sm_neI, sm_eqB, sm_neB, sm_isN, sm_isNotN, sm_truI, sm_truB, sm_truN, sm_truL, sm_truT, sm_not, sm_ixL, sm_ixT, sm_at0, sm_at1, sm_at2, sm_lenL, sm_lenT, sm_abs, sm_int, sm_intB, sm_max2, sm_min2, sm_listL, sm_listT, sm_tupL, sm_tupT, sm_seqL, sm_seqT, sm_lsL, sm_rng1, sm_rng2, sm_rng3, sm_app, sm_rep1, sm_set1, sm_setN, sm_setC, sm_mixN, sm_mixC, sm_isi, sm_isi2, sm_item0, sm_item1, sm_iset0, sm_iset1, wipe_n, wipe_c, List.set_cons_zero, List.set_cons_succ, List.getElem?_cons_zero, List.getElem?_cons_succ, List.length_cons, List.length_nil, Nat.zero_le, Bool.false_eq_true, if_true, if_false, Bool.not_true, Bool.not_false, Bool.not_not, ediv]
      refine ⟨div_sm, mul_sm, k', A * phP p (w + 1), .sh (.int p), .sh (.int ((w + 1 : Nat) : Int)), ?_, rfl, by rw [hr]; rfl, hr1, ?_, hle2, ?_⟩
      · rw [hp1c, ← Int.natCast_mul, hprod]
      · have : k' ≤ k := by rw [hkv]; exact Nat.le_mul_of_pos_left _ (Nat.pow_pos hp.pos)
        omega
      · rw [← hA]
        have : phi k = phP p (w + 1) * phi k' := by
          unfold phi; rw [hb]; show phP p (w + 1) * prL phP r = _; rw [← hr]
        rw [this, Nat.mul_assoc]
noncomputable def fs_coprimes : List D → Option D := FV 1 4 (z_coprimes fs_prime_powers)
theorem sm_coprimes {i : Int} {n : Nat} {Q : D → Prop} (e : i = n) (h1 : 1 ≤ n) (hn : n < 1152921504606846976) (q : Q (.int (phi n : Nat))) : Sm (fs_coprimes [.int i]) Q := by
  subst e; exact FV.sm1 rfl (w_coprimes h1 hn) q
end ZC
namespace ZC
open PySem PySem.Spec PyProof.Rows L2 Z ZM
theorem pow_small {p v n : Nat} (hp : 2 ≤ p) (hn : n < 1152921504606846976) (h : p ^ v ≤ n) : v < 60 := by
  apply Nat.lt_of_not_le
  intro c
  have h1 : 2 ^ v ≤ p ^ v := Nat.pow_le_pow_left hp v
  have h2 : 2 ^ 60 ≤ 2 ^ v := Nat.pow_le_pow_right (by decide) c
  omega
theorem w_greatest_order {n : Nat} (h1 : 1 ≤ n) (hn : n < 1152921504606846976) : W (z_greatest_order fs_prime_powers fs_power) [.sh (.int n), .no, .no, .no, .no] none (fun o => o = .ret (.int (lam n : Nat)) none) := by
  unfold z_greatest_order
  simp only [e_var, e_rd, e_sr, e_cst, e_op1, e_op2, e_op3, e_chain, e_band, e_bor, e_ife, e_anil, e_acons, e_lst, e_tup, e_bi, e_call, e_calls, e_sget, ls_l, gV_sh, gR_sh, gR_br, gR_ow, gS_sh, gS_br, gO_ow, gF_ow, gF_sh, sm_some, w_asg1, w_asg, w_asgO, w_par, w_ret, w_drop, w_aug, w_mut, w_seti, w_augi, w_pop, w_frz, w_sset, w_ife, w_skip, w_brk, w_cont, w_seq, kq_ret, kq_bk, kq_ct, kl_bk, kl_ret, br_b, decide_eq_true_eq, decide_eq_false_iff_not, Bool.not_eq_true', Bool.not_eq_false', reduceCtorEq, true_implies, false_implies, forall_const, not_true_eq_false, not_false_eq_true, and_true, true_and, implies_true, sm_add, sm_addI, sm_addL, sm_addT, sm_cat, sm_sub, sm_mul, sm_div, sm_mod, sm_pow, sm_neg, sm_lt, sm_le, sm_gt, sm_ge, sm_eqI, sm_neI, sm_eqB, sm_neB, sm_isN, sm_isNotN, sm_truI, sm_truB, sm_truN, sm_truL, sm_truT, sm_not, sm_ixL, sm_ixT, sm_at0, sm_at1, sm_at2, sm_lenL, sm_lenT, sm_abs, sm_int, sm_intB, sm_max2, sm_min2, sm_listL, sm_listT, sm_tupL, sm_tupT, sm_seqL, sm_seqT, sm_lsL, sm_rng1, sm_rng2, sm_rng3, sm_app, sm_rep1, sm_set1, sm_setN, sm_setC, sm_mixN, sm_mixC, sm_isi, sm_isi2, sm_item0, sm_item1, sm_iset0, sm_iset1, wipe_n, wipe_c, List.set_cons_zero, List.set_cons_succ, List.getElem?_cons_zero, List.getElem?_cons_succ, List.length_cons, List.length_nil, Nat.zero_le, Bool.false_eq_true, if_true, if_false, Bool.not_true, Bool.not_false, Bool.not_not, kq_nx]
  refine W.forL (fun ts env st => ∃ (k A : Nat) (s2 s3 s4 : Sl), env = [.sh (.int n), .sh (.int A), s2, s3, s4] ∧ st = none ∧ ts = bookD (book k) ∧ 1 ≤ k ∧ k ≤ n ∧ 1 ≤ A ∧ A * k ≤ n ∧ Nat.lcm A (lam k) = lam n) (bookD (book n)) ?_ ⟨n, 1, _, _, _, rfl, rfl, rfl, h1, Nat.le_refl _, by omega, by omega, Nat.lcm_one_left _⟩ ?_ ?_
  · simp only [e_var, e_rd, e_sr, e_cst, e_op1, e_op2, e_op3, e_chain, e_band, e_bor, e_ife, e_anil, e_acons, e_lst, e_tup, e_bi, e_call, e_calls, e_sget, ls_l, gV_sh, gR_sh, gR_br, gR_ow, gS_sh, gS_br, gO_ow, gF_ow, gF_sh, sm_some, w_asg1, w_asg, w_asgO, w_par, w_ret, w_drop, w_aug, w_mut, w_seti, w_augi, w_pop, w_frz, w_sset, w_ife, w_skip, w_brk, w_cont, w_seq, kq_ret, kq_bk, kq_ct, kl_bk, kl_ret, br_b, decide_eq_true_eq, decide_eq_false_iff_not, Bool.not_eq_true', Bool.not_eq_false', reduceCtorEq, true_implies, false_implies, forall_const, not_true_eq_false, not_false_eq_true, and_true, true_and, implies_true, sm_add, sm_addI, sm_addL, sm_addT, sm_cat, sm_sub, sm_mul, sm_div, sm_mod, sm_pow, sm_neg, sm_lt, sm_le, sm_gt, sm_ge, sm_eqI, sm_neI, sm_eqB, sm_neB, sm_isN, sm_isNotN, sm_truI, sm_truB, sm_truN, sm_truL, sm_truT, sm_not, sm_ixL, sm_ixT, sm_at0, sm_at1, sm_at2, sm_lenL, sm_lenT, sm_abs, sm_int, sm_intB, sm_max2, sm_min2, sm_listL, sm_listT, sm_tupL, sm_tupT, sm_seqL, sm_seqT, sm_lsL, sm_rng1, sm_rng2, sm_rng3, sm_app, sm_rep1, sm_set1, sm_setN, sm_setC, sm_mixN, sm_mixC, sm_isi, sm_isi2, sm_item0, sm_item1, sm_iset0, sm_iset1, wipe_n, wipe_c, List.set_cons_zero, List.set_cons_succ, List.getElem?_cons_zero, List.getElem?_cons_succ, List.length_cons, List.length_nil, Nat.zero_le, Bool.false_eq_true, if_true, if_false, Bool.not_true, Bool.not_false, Bool.not_not]
    refine sm_prime_powers rfl h1 hn ?_
    (try simp only [e_var, e_rd, e_sr, e_cst, e_op1, e_op2, e_op3, e_chain, e_band, e_bor, e_ife, e_anil, e_acons, e_lst, e_tup, e_bi, e_call, e_calls, e_sget, ls_l, gV_sh, gR_sh, gR_br, gR_ow, gS_sh, gS_br, gO_ow, gF_ow, gF_sh, sm_some, w_asg1, w_asg, w_asgO, w_par, w_ret, w_drop, w_aug, w_mut, w_seti, w_augi, w_pop, w_frz, w_sset, w_ife, w_skip, w_brk, w_cont, w_seq, kq_ret, kq_bk, kq_ct, kl_bk, kl_ret, br_b, decide_eq_true_eq, decide_eq_false_iff_not, Bool.not_eq_true', Bool.not_eq_false', reduceCtorEq, true_implies, false_implies, forall_const, not_true_eq_false, not_false_eq_true, and_true, true_and, implies_true, sm_add, sm_addI, sm_addL, sm_addT, sm_cat, sm_sub, sm_mul, sm_div, sm_mod, sm_pow, sm_neg, sm_lt, sm_le, sm_gt, sm_ge, sm_eqI, sm_neI, sm_eqB, sm_neB, sm_isN, sm_isNotN, sm_truI, sm_truB, sm_truN, sm_truL, sm_truT, sm_not, sm_ixL, sm_ixT, sm_at0, sm_at1, sm_at2, sm_lenL, sm_lenT, sm_abs, sm_int, sm_intB, sm_max2, sm_min2, sm_listL, sm_listT, sm_tupL, sm_tupT, sm_seqL, sm_seqT, sm_lsL, sm_rng1, sm_rng2, sm_rng3, sm_app, sm_rep1, sm_set1, sm_setN, sm_setC, sm_mixN, sm_mixC, sm_isi, sm_isi2, sm_item0, sm_item1, sm_iset0, sm_iset1, wipe_n, wipe_c, List.set_cons_zero, List.set_cons_succ, List.getElem?_cons_zero, List.getElem?_cons_succ, List.length_cons, List.length_nil, Nat.zero_le, Bool.false_eq_true, if_true, if_false, Bool.not_true, Bool.not_false, Bool.not_not])
  · rintro env st ⟨k, A, s2, s3, s4, rfl, rfl, hts, hk1, hkn, hA1, hAn, hA⟩
    simp only [e_var, e_rd, e_sr, e_cst, e_op1, e_op2, e_op3, e_chain, e_band, e_bor, e_ife, e_anil, e_acons, e_lst, e_tup, e_bi, e_call, e_calls, e_sget, ls_l, gV_sh, gR_sh, gR_br, gR_ow, gS_sh, gS_br, gO_ow, gF_ow, gF_sh, sm_some, w_asg1, w_asg, w_asgO, w_par, w_ret, w_drop, w_aug, w_mut, w_seti, w_augi, w_pop, w_frz, w_sset, w_ife, w_skip, w_brk, w_cont, w_seq, kq_ret, kq_bk, kq_ct, kl_bk, kl_ret, br_b, decide_eq_true_eq, decide_eq_false_iff_not, Bool.not_eq_true', Bool.not_eq_false', reduceCtorEq, true_implies, false_implies, forall_const, not_true_eq_false, not_false_eq_true, and_true, true_and, implies_true, sm_add, sm_addI, sm_addL, sm_addT, sm_cat, sm_sub, sm_mul, sm_div, sm_mod, sm_pow, sm_neg, sm_lt, sm_le, sm_gt, sm_ge, sm_eqI, sm_neI, sm_eqB, sm_neB, sm_isN, sm_isNotN, sm_truI, sm_truB, sm_truN, sm_truL, sm_truT, sm_not, sm_ixL, sm_ixT, sm_at0, sm_at1, sm_at2, sm_lenL, sm_lenT, sm_abs, sm_int, sm_intB, sm_max2, sm_min2, sm_listL, sm_listT, sm_tupL, sm_tupT, sm_seqL, sm_seqT, sm_lsL, sm_rng1, sm_rng2, sm_rng3, sm_app, sm_rep1, sm_set1, sm_setN, sm_setC, sm_mixN, sm_mixC, sm_isi, sm_isi2, sm_item0, sm_item1, sm_iset0, sm_iset1, wipe_n, wipe_c, List.set_cons_zero, List.set_cons_succ, List.getElem?_cons_zero, List.getElem?_cons_succ, List.length_cons, List.length_nil, Nat.zero_le, Bool.false_eq_true, if_true, if_false, Bool.not_true, Bool.not_false, Bool.not_not, kq_nx]
    have hb : book k = [] := by
      cases h : book k with
      | nil => rfl
      | cons q r => rw [h] at hts; obtain ⟨p, v⟩ := q; cases hts
    have : lam k = 1 := by unfold lam; rw [hb]; rfl
    rw [← hA, this, Nat.lcm_one_right]
  · rintro t ts env st ⟨k, A, s2, s3, s4, rfl, rfl, hts, hk1, hkn, hA1, hAn, hA⟩
    cases hb : book k with
    | nil => rw [hb] at hts; cases hts
    | cons q r =>
      obtain ⟨p, v⟩ := q
      rw [hb] at hts
      cases hts
      obtain ⟨hp, hv, hr1, hkv, hr, hnd⟩ := book_left hk1 hb
      generalize hk' : vr p k = k' at *
      have hp1 := hp.1
      have hpv : p ^ v ≤ n := by
        have : p ^ v ≤ k := by rw [hkv]; exact Nat.le_mul_of_pos_right _ hr1
        omega
      have hv60 := pow_small hp1 hn hpv
      have hpn : p ≤ n := by
        have := Nat.pow_le_pow_right (n := p) (by omega) hv
        rw [Nat.pow_one] at this
        omega
      have hla := laP_le (p := p) hv
      have hla1 := laP_pos hp hv
      have hph := phP_le (p := p) hv
      have hlk : lam k = Nat.lcm (laP p v) (lam k') := by
        unfold lam; rw [hb, hr]; rfl
      have hAla : A * laP p v ≤ n := by
        have h2 : A * laP p v ≤ A * k := Nat.mul_le_mul_left _ (by rw [hkv]; exact Nat.le_trans hla (Nat.le_mul_of_pos_right _ hr1))
        omega
      have hAk : A ≤ n := by
        have := Nat.le_mul_of_pos_right A hk1
        omega
      have sp : Sz 60 (p : Int) := by unfold Sz; omega
      simp only [e_var, e_rd, e_sr, e_cst, e_op1, e_op2, e_op3, e_chain, e_band, e_bor, e_ife, e_anil, e_acons, e_lst, e_tup, e_bi, e_call, e_calls, e_sget, ls_l, gV_sh, gR_sh, gR_br, gR_ow, gS_sh, gS_br, gO_ow, gF_ow, gF_sh, sm_some, w_asg1, w_asg, w_asgO, w_par, w_ret, w_drop, w_aug, w_mut, w_seti, w_augi, w_pop, w_frz, w_sset, w_ife, w_skip, w_brk, w_cont, w_seq, kq_ret, kq_bk, kq_ct, kl_bk, kl_ret, br_b, decide_eq_true_eq, decide_eq_false_iff_not, Bool.not_eq_true', Bool.not_eq_false', reduceCtorEq, true_implies, false_implies, forall_const, not_true_eq_false, not_false_eq_true, and_true, true_and, implies_true, sm_add, sm_addI, sm_addL, sm_addT, sm_cat, sm_sub, sm_mul, sm_div, sm_mod, sm_pow, sm_neg, sm_lt, sm_le, sm_gt, sm_ge, sm_eqI, sm_neI, sm_eqB, sm_neB, sm_isN, sm_isNotN, sm_truI, sm_truB, sm_truN, sm_truL, sm_truT, sm_not, sm_ixL, sm_ixT, sm_at0, sm_at1, sm_at2, sm_lenL, sm_lenT, sm_abs, sm_int, sm_intB, sm_max2, sm_min2, sm_listL, sm_listT, sm_tupL, sm_tupT, sm_seqL, sm_seqT, sm_lsL, sm_rng1, sm_rng2, sm_rng3, sm_app, sm_rep1, sm_set1, sm_setN, sm_setC, sm_mixN, sm_mixC, sm_isi, sm_isi2, sm_item0, sm_item1, sm_iset0, sm_iset1, wipe_n, wipe_c, List.set_cons_zero, List.set_cons_succ, List.getElem?_cons_zero, List.getElem?_cons_succ, List.length_cons, List.length_nil, Nat.zero_le, Bool.false_eq_true, if_true, if_false, Bool.not_true, Bool.not_false, Bool.not_not]
      refine sm_power (n := v - 1) (k := 60) (by omega) sp (by omega) (by omega) ?_
      have hpw : (p : Int) ^ (v - 1) = ((p ^ (v - 1) : Nat) : Int) := by rw [Int.natCast_pow]
      have hpw2 : p ^ (v - 1) ≤ n := Nat.le_trans (Nat.pow_le_pow_right (by omega) (by omega)) hpv
      have hp1c : ((p : Int) - 1) = ((p - 1 : Nat) : Int) := by omega
      rw [hpw]
      (try simp only [e_var, e_rd, e_sr, e_cst, e_op1, e_op2, e_op3, e_chain, e_band, e_bor, e_ife, e_anil, e_acons, e_lst, e_tup, e_bi, e_call, e_calls, e_sget, ls_l, gV_sh, gR_sh, gR_br, gR_ow, gS_sh, gS_br, gO_ow, gF_ow, gF_sh, sm_some, w_asg1, w_asg, w_asgO, w_par, w_ret, w_drop, w_aug, w_mut, w_seti, w_augi, w_pop, w_frz, w_sset, w_ife, w_skip, w_brk, w_cont, w_seq, kq_ret, kq_bk, kq_ct, kl_bk, kl_ret, br_b, decide_eq_true_eq, decide_eq_false_iff_not, Bool.not_eq_true', Bool.not_eq_false', reduceCtorEq, true_implies, false_implies, forall_const, not_true_eq_false, not_false_eq_true, and_true, true_and, implies_true, sm_add, sm_addI, sm_addL, sm_addT, sm_cat, sm_sub, sm_mul, sm_div, sm_mod, sm_pow, sm_neg, sm_lt, sm_le, sm_gt, sm_ge, sm_eqI, sm_neI, sm_eqB, sm_neB, sm_isN, sm_isNotN, sm_truI, sm_truB, sm_truN, sm_truL, sm_truT, sm_not, sm_ixL, sm_ixT, sm_at0, sm_at1, sm_at2, sm_lenL, sm_lenT, sm_abs, sm_int, sm_intB, sm_max2, sm_min2, sm_listL, sm_listT, sm_tupL, sm_tupT, sm_seqL, sm_seqT, sm_lsL, sm_rng1, sm_rng2, sm_rng3, sm_app, sm_rep1, sm_set1, sm_setN, sm_setC, sm_mixN, sm_mixC, sm_isi, sm_isi2, sm_item0, sm_item1, sm_iset0, sm_iset1, wipe_n, wipe_c, List.set_cons_zero, List.set_cons_succ, List.getElem?_cons_zero, List.getElem?_cons_succ, List.length_cons, List.length_nil, Nat.zero_le, Bool.false_eq_true, if_true, if_false, Bool.not_true, Bool.not_false, Bool.not_not])
      refine ⟨mul_sm, ?_⟩
      have e1 : ((p : Int) - 1) * ((p ^ (v - 1) : Nat) : Int) = ((phP p v : Nat) : Int) := by
        rw [hp1c, ← Int.natCast_mul]; rfl
      rw [e1, kq_nx]
      refine W.cut (P := fun o => o = .nx [.sh (.int n), .sh (.int A), .sh (.int p), .sh (.int v), .sh (.int (laP p v : Nat))] none) ?_ ?_
      · have l1 : ¬ (p = 2 ∧ 2 < v) → laP p v = phP p v := fun c => by unfold laP phP; rw [if_neg c]
        simp only [e_var, e_rd, e_sr, e_cst, e_op1, e_op2, e_op3, e_chain, e_band, e_bor, e_ife, e_anil, e_acons, e_lst, e_tup, e_bi, e_call, e_calls, e_sget, ls_l, gV_sh, gR_sh, gR_br, gR_ow, gS_sh, gS_br, gO_ow, gF_ow, gF_sh, sm_some, w_asg1, w_asg, w_asgO, w_par, w_ret, w_drop, w_aug, w_mut, w_seti, w_augi, w_pop, w_frz, w_sset, w_ife, w_skip, w_brk, w_cont, w_seq, kq_ret, kq_bk, kq_ct, kl_bk, kl_ret, br_b, decide_eq_true_eq, decide_eq_false_iff_not, Bool.not_eq_true', Bool.not_eq_false', reduceCtorEq, true_implies, false_implies, forall_const, not_true_eq_false, not_false_eq_true, and_true, true_and, implies_true, sm_add, sm_addI, sm_addL, sm_addT, sm_cat, sm_sub, sm_mul, sm_div, sm_mod, sm_pow, sm_neg, sm_lt, sm_le, sm_gt, sm_ge, sm_eqI, sm_neI, sm_eqB, sm_neB, sm_isN, sm_isNotN, sm_truI, sm_truB, sm_truN, sm_truL, sm_truT, sm_not, sm_ixL, sm_ixT, sm_at0, sm_at1, sm_at2, sm_lenL, sm_lenT, sm_abs, sm_int, sm_intB, sm_max2, sm_min2, sm_listL, sm_listT, sm_tupL, sm_tupT, sm_seqL, sm_seqT, sm_lsL, sm_rng1, sm_rng2, sm_rng3, sm_app, sm_rep1, sm_set1, sm_setN, sm_setC, sm_mixN, sm_mixC, sm_isi, sm_isi2, sm_item0, sm_item1, sm_iset0, sm_iset1, wipe_n, wipe_c, List.set_cons_zero, List.set_cons_succ, List.getElem?_cons_zero, List.getElem?_cons_succ, List.length_cons, List.length_nil, Nat.zero_le, Bool.false_eq_true, if_true, if_false, Bool.not_true, Bool.not_false, Bool.not_not]
        refine ⟨fun c1 => ⟨fun c2 => ⟨by decide, ?_⟩, fun c2 => ?_⟩, fun c1 => ?_⟩
        · have : laP p v = phP p v / 2 := by unfold laP phP; rw [if_pos ⟨by omega, by omega⟩]
          rw [this, Int.natCast_ediv]; rfl
        · rw [l1 (fun c => by omega)]
        · rw [l1 (fun c => by omega)]
      · rintro o rfl
        rw [kq_nx]
        simp only [e_var, e_rd, e_sr, e_cst, e_op1, e_op2, e_op3, e_chain, e_band, e_bor, e_ife, e_anil, e_acons, e_lst, e_tup, e_bi, e_call, e_calls, e_sget, ls_l, gV_sh, gR_sh, gR_br, gR_ow, gS_sh, gS_br, gO_ow, gF_ow, gF_sh, sm_some, w_asg1, w_asg, w_asgO, w_par, w_ret, w_drop, w_aug, w_mut, w_seti, w_augi, w_pop, w_frz, w_sset, w_ife, w_skip, w_brk, w_cont, w_seq, kq_ret, kq_bk, kq_ct, kl_bk, kl_ret, br_b, decide_eq_true_eq, decide_eq_false_iff_not, Bool.not_eq_true', Bool.not_eq_false', reduceCtorEq, true_implies, false_implies, forall_const, not_true_eq_false, not_false_eq_true, and_true, true_and, implies_true, sm_add, sm_addI, sm_addL, sm_addT, sm_cat, sm_sub, sm_mul, sm_div, sm_mod, sm_pow, sm_neg, sm_lt, sm_le, sm_gt, sm_ge, sm_eqI, sm_neI, sm_eqB, sm_neB, sm_isN, sm_isNotN, sm_truI, sm_truB, sm_truN, sm_truL, sm_truT, sm_not, sm_ixL, sm_ixT, sm_at0, sm_at1, sm_at2, sm_lenL, sm_lenT, sm_abs, sm_int, sm_intB, sm_max2, sm_min2, sm_listL, sm_listT, sm_tupL, sm_tupT, sm_seqL, sm_seqT, sm_lsL, sm_rng1, sm_rng2, sm_rng3, sm_app, sm_rep1, sm_set1, sm_setN, sm_setC, sm_mixN, sm_mixC, sm_isi, sm_isi2, sm_item0, sm_item1, sm_iset0, sm_iset1, wipe_n, wipe_c, List.set_cons_zero, List.set_cons_succ, List.getElem?_cons_zero, List.getElem?_cons_succ, List.length_cons, List.length_nil, Nat.zero_le, Bool.false_eq_true, if_true, if_false, Bool.not_true, Bool.not_false, Bool.not_not]
        refine ⟨mul_sm, ?_⟩
        refine sm_gcdB ?_
        have hg : 0 < Nat.gcd A (laP p v) := Nat.gcd_pos_of_pos_left _ hA1
        have hgl : Nat.gcd A (laP p v) ≤ A := Nat.gcd_le_left _ hA1
        have el : (A : Int) * (laP p v : Nat) / (Nat.gcd A (laP p v) : Nat) = ((Nat.lcm A (laP p v) : Nat) : Int) := by
          rw [← Int.natCast_mul, ← Int.natCast_ediv]; rfl
        (try simp only [e_var, e_rd, e_sr, e_cst, e_op1, e_op2, e_op3, e_chain, e_band, e_bor, e_ife, e_anil, e_acons, e_lst, e_tup, e_bi, e_call, e_calls, e_sget, ls_l, gV_sh, gR_sh, gR_br, gR_ow, gS_sh, gS_br, gO_ow, gF_ow, gF_sh, sm_some, w_asg1, w_asg, w_asgO, w_par, w_ret, w_drop, w_aug, w_mut, w_seti, w_augi, w_pop, w_frz, w_sset, w_ife, w_skip, w_brk, w_cont, w_seq, kq_ret, kq_bk, kq_ct, kl_bk, kl_ret, br_b, decide_eq_true_eq, decide_eq_false_iff_not, Bool.not_eq_true', Bool.not_eq_false', reduceCtorEq, true_implies, false_implies, forall_const, not_true_eq_false, not_false_eq_true, and_true, true_and, implies_true, sm_add, sm_addI, sm_addL, sm_addT, sm_cat, sm_sub, sm_mul, sm_div, sm_mod, sm_pow, sm_neg, sm_lt, sm_le, sm_gt, sm_ge, sm_eqI, sm_neI, sm_eqB, sm_neB, sm_isN, sm_isNotN, sm_truI, sm_truB, sm_truN, sm_truL, sm_truT, sm_not, sm_ixL, sm_ixT, sm_at0, sm_at1, sm_at2, sm_lenL, sm_lenT, sm_abs, sm_int, sm_intB, sm_max2, sm_min2, sm_listL, sm_listT, sm_tupL, sm_tupT, sm_seqL, sm_seqT, sm_lsL, sm_rng1, sm_rng2, sm_rng3, sm_app, sm_rep1, sm_set1, sm_setN, sm_setC, sm_mixN, sm_mixC, sm_isi, sm_isi2, sm_item0, sm_item1, sm_iset0, sm_iset1, wipe_n, wipe_c, List.set_cons_zero, List.set_cons_succ, List.getElem?_cons_zero, List.getElem?_cons_succ, List.length_cons, List.length_nil, Nat.zero_le, Bool.false_eq_true, if_true, if_false, Bool.not_true, Bool.not_false, Bool.not_not, el])
        refine ⟨div_sm, k', Nat.lcm A (laP p v), _, _, _, rfl, rfl, by rw [hr]; rfl, hr1, ?_, Nat.lcm_pos hA1 hla1, ?_, ?_⟩
        · have : k' ≤ k := by rw [hkv]; exact Nat.le_mul_of_pos_left _ (Nat.pow_pos hp.pos)
          omega
        · have h3 := lcm_le_mul hA1 hla1
          have h4 : Nat.lcm A (laP p v) * k' ≤ A * laP p v * k' := Nat.mul_le_mul_right _ h3
          have h5 : A * laP p v * k' ≤ A * (p ^ v * k') := by rw [Nat.mul_assoc]; exact Nat.mul_le_mul_left _ (Nat.mul_le_mul_right _ hla)
          rw [← hkv] at h5
          omega
        · rw [← hA, hlk, Nat.lcm_assoc]
noncomputable def fs_greatest_order : List D → Option D := FV 1 5 (z_greatest_order fs_prime_powers fs_power)
theorem sm_greatest_order {i : Int} {n : Nat} {Q : D → Prop} (e : i = n) (h1 : 1 ≤ n) (hn : n < 1152921504606846976) (q : Q (.int (lam n : Nat))) : Sm (fs_greatest_order [.int i]) Q := by
  subst e; exact FV.sm1 rfl (w_greatest_order h1 hn) q
end ZC
namespace ZC
open PySem PySem.Spec PyProof.Rows L2 Z ZM
theorem cast_pow_mod (a e n : Nat) : ((a : Int) ^ e % (n : Int)) = ((a ^ e % n : Nat) : Int) := by rw [Int.natCast_emod, Int.natCast_pow]
theorem w_order_of {a n : Nat} (h1 : 1 ≤ n) (hn : n < 1152921504606846976) (hc : Nat.Coprime a n) : W (z_order_of fs_greatest_order fs_prime_powers fs_power_by) [.sh (.int a), .sh (.int n), .no, .no, .no] none (fun o => ∃ d : Nat, o = .ret (.int d) none ∧ IsOrd a n d) := by
  have hL1 := lam_pos h1
  have hLn := lam_le h1
  unfold z_order_of
  simp only [e_var, e_rd, e_sr, e_cst, e_op1, e_op2, e_op3, e_chain, e_band, e_bor, e_ife, e_anil, e_acons, e_lst, e_tup, e_bi, e_call, e_calls, e_sget, ls_l, gV_sh, gR_sh, gR_br, gR_ow, gS_sh, gS_br, gO_ow, gF_ow, gF_sh, sm_some, w_asg1, w_asg, w_asgO, w_par, w_ret, w_drop, w_aug, w_mut, w_seti, w_augi, w_pop, w_frz, w_sset, w_ife, w_skip, w_brk, w_cont, w_seq, kq_ret, kq_bk, kq_ct, kl_bk, kl_ret, br_b, decide_eq_true_eq, decide_eq_false_iff_not, Bool.not_eq_true', Bool.not_eq_false', reduceCtorEq, true_implies, false_implies, forall_const, not_true_eq_false, not_false_eq_true, and_true, true_and, implies_true, sm_add, sm_addI, sm_addL, sm_addT, sm_cat, sm_sub, sm_mul, sm_div, sm_mod, sm_pow, sm_neg, sm_lt, sm_le, sm_gt, sm_ge, sm_eqI, sm_neI, sm_eqB, sm_neB, sm_isN, sm_isNotN, sm_truI, sm_truB, sm_truN, sm_truL, sm_truT, sm_not, sm_ixL, sm_ixT, sm_at0, sm_at1, sm_at2, sm_lenL, sm_lenT, sm_abs, sm_int, sm_intB, sm_max2, sm_min2, sm_listL, sm_listT, sm_tupL, sm_tupT, sm_seqL, sm_seqT, sm_lsL, sm_rng1, sm_rng2, sm_rng3, sm_app, sm_rep1, sm_set1, sm_setN, sm_setC, sm_mixN, sm_mixC, sm_isi, sm_isi2, sm_item0, sm_item1, sm_iset0, sm_iset1, wipe_n, wipe_c, List.set_cons_zero, List.set_cons_succ, List.getElem?_cons_zero, List.getElem?_cons_succ, List.length_cons, List.length_nil, Nat.zero_le, Bool.false_eq_true, if_true, if_false, Bool.not_true, Bool.not_false, Bool.not_not, kq_nx]
  refine sm_greatest_order rfl h1 hn ?_
  refine W.forL (fun ts env st => ∃ (t : Nat) (pre l : List (Nat × Nat)) (s3 s4 : Sl), env = [.sh (.int a), .sh (.int n), .sh (.int t), s3, s4] ∧ st = none ∧ ts = bookD l ∧ pre ++ l = book (lam n) ∧ 1 ≤ t ∧ t ∣ lam n ∧ a ^ t % n = 1 % n ∧ ∀ q ∈ pre, q.1 ∣ t → a ^ (t / q.1) % n ≠ 1 % n) (bookD (book (lam n))) ?_ ⟨lam n, [], _, _, _, rfl, rfl, rfl, rfl, hL1, Nat.dvd_refl _, lam_one h1 hc, fun q hq => by cases hq⟩ ?_ ?_
  · simp only [e_var, e_rd, e_sr, e_cst, e_op1, e_op2, e_op3, e_chain, e_band, e_bor, e_ife, e_anil, e_acons, e_lst, e_tup, e_bi, e_call, e_calls, e_sget, ls_l, gV_sh, gR_sh, gR_br, gR_ow, gS_sh, gS_br, gO_ow, gF_ow, gF_sh, sm_some, w_asg1, w_asg, w_asgO, w_par, w_ret, w_drop, w_aug, w_mut, w_seti, w_augi, w_pop, w_frz, w_sset, w_ife, w_skip, w_brk, w_cont, w_seq, kq_ret, kq_bk, kq_ct, kl_bk, kl_ret, br_b, decide_eq_true_eq, decide_eq_false_iff_not, Bool.not_eq_true', Bool.not_eq_false', reduceCtorEq, true_implies, false_implies, forall_const, not_true_eq_false, not_false_eq_true, and_true, true_and, implies_true, sm_add, sm_addI, sm_addL, sm_addT, sm_cat, sm_sub, sm_mul, sm_div, sm_mod, sm_pow, sm_neg, sm_lt, sm_le, sm_gt, sm_ge, sm_eqI, sm_neI, sm_eqB, sm_neB, sm_isN, sm_isNotN, sm_truI, sm_truB, sm_truN, sm_truL, sm_truT, sm_not, sm_ixL, sm_ixT, sm_at0, sm_at1, sm_at2, sm_lenL, sm_lenT, sm_abs, sm_int, sm_intB, sm_max2, sm_min2, sm_listL, sm_listT, sm_tupL, sm_tupT, sm_seqL, sm_seqT, sm_lsL, sm_rng1, sm_rng2, sm_rng3, sm_app, sm_rep1, sm_set1, sm_setN, sm_setC, sm_mixN, sm_mixC, sm_isi, sm_isi2, sm_item0, sm_item1, sm_iset0, sm_iset1, wipe_n, wipe_c, List.set_cons_zero, List.set_cons_succ, List.getElem?_cons_zero, List.getElem?_cons_succ, List.length_cons, List.length_nil, Nat.zero_le, Bool.false_eq_true, if_true, if_false, Bool.not_true, Bool.not_false, Bool.not_not]
    refine sm_prime_powers rfl hL1 (by omega) ?_
    (try simp only [e_var, e_rd, e_sr, e_cst, e_op1, e_op2, e_op3, e_chain, e_band, e_bor, e_ife, e_anil, e_acons, e_lst, e_tup, e_bi, e_call, e_calls, e_sget, ls_l, gV_sh, gR_sh, gR_br, gR_ow, gS_sh, gS_br, gO_ow, gF_ow, gF_sh, sm_some, w_asg1, w_asg, w_asgO, w_par, w_ret, w_drop, w_aug, w_mut, w_seti, w_augi, w_pop, w_frz, w_sset, w_ife, w_skip, w_brk, w_cont, w_seq, kq_ret, kq_bk, kq_ct, kl_bk, kl_ret, br_b, decide_eq_true_eq, decide_eq_false_iff_not, Bool.not_eq_true', Bool.not_eq_false', reduceCtorEq, true_implies, false_implies, forall_const, not_true_eq_false, not_false_eq_true, and_true, true_and, implies_true, sm_add, sm_addI, sm_addL, sm_addT, sm_cat, sm_sub, sm_mul, sm_div, sm_mod, sm_pow, sm_neg, sm_lt, sm_le, sm_gt, sm_ge, sm_eqI, sm_neI, sm_eqB, sm_neB, sm_isN, sm_isNotN, sm_truI, sm_truB, sm_truN, sm_truL, sm_truT, sm_not, sm_ixL, sm_ixT, sm_at0, sm_at1, sm_at2, sm_lenL, sm_lenT, sm_abs, sm_int, sm_intB, sm_max2, sm_min2, sm_listL, sm_listT, sm_tupL, sm_tupT, sm_seqL, sm_seqT, sm_lsL, sm_rng1, sm_rng2, sm_rng3, sm_app, sm_rep1, sm_set1, sm_setN, sm_setC, sm_mixN, sm_mixC, sm_isi, sm_isi2, sm_item0, sm_item1, sm_iset0, sm_iset1, wipe_n, wipe_c, List.set_cons_zero, List.set_cons_succ, List.getElem?_cons_zero, List.getElem?_cons_succ, List.length_cons, List.length_nil, Nat.zero_le, Bool.false_eq_true, if_true, if_false, Bool.not_true, Bool.not_false, Bool.not_not])
  · rintro env st ⟨t, pre, l, s3, s4, rfl, rfl, hts, hpl, ht1, htd, ht, hq⟩
    have hl : l = [] := by
      cases l with
      | nil => rfl
      | cons q r => obtain ⟨p, v⟩ := q; cases hts
    subst hl
    rw [List.append_nil] at hpl
    simp only [e_var, e_rd, e_sr, e_cst, e_op1, e_op2, e_op3, e_chain, e_band, e_bor, e_ife, e_anil, e_acons, e_lst, e_tup, e_bi, e_call, e_calls, e_sget, ls_l, gV_sh, gR_sh, gR_br, gR_ow, gS_sh, gS_br, gO_ow, gF_ow, gF_sh, sm_some, w_asg1, w_asg, w_asgO, w_par, w_ret, w_drop, w_aug, w_mut, w_seti, w_augi, w_pop, w_frz, w_sset, w_ife, w_skip, w_brk, w_cont, w_seq, kq_ret, kq_bk, kq_ct, kl_bk, kl_ret, br_b, decide_eq_true_eq, decide_eq_false_iff_not, Bool.not_eq_true', Bool.not_eq_false', reduceCtorEq, true_implies, false_implies, forall_const, not_true_eq_false, not_false_eq_true, and_true, true_and, implies_true, sm_add, sm_addI, sm_addL, sm_addT, sm_cat, sm_sub, sm_mul, sm_div, sm_mod, sm_pow, sm_neg, sm_lt, sm_le, sm_gt, sm_ge, sm_eqI, sm_neI, sm_eqB, sm_neB, sm_isN, sm_isNotN, sm_truI, sm_truB, sm_truN, sm_truL, sm_truT, sm_not, sm_ixL, sm_ixT, sm_at0, sm_at1, sm_at2, sm_lenL, sm_lenT, sm_abs, sm_int, sm_intB, sm_max2, sm_min2, sm_listL, sm_listT, sm_tupL, sm_tupT, sm_seqL, sm_seqT, sm_lsL, sm_rng1, sm_rng2, sm_rng3, sm_app, sm_rep1, sm_set1, sm_setN, sm_setC, sm_mixN, sm_mixC, sm_isi, sm_isi2, sm_item0, sm_item1, sm_iset0, sm_iset1, wipe_n, wipe_c, List.set_cons_zero, List.set_cons_succ, List.getElem?_cons_zero, List.getElem?_cons_succ, List.length_cons, List.length_nil, Nat.zero_le, Bool.false_eq_true, if_true, if_false, Bool.not_true, Bool.not_false, Bool.not_not, kq_nx]
    refine ⟨t, rfl, ord_of_tight ht1 ht fun p hp hpt => ?_⟩
    obtain ⟨v, hv⟩ := book_mem hL1 hp (Nat.dvd_trans hpt htd)
    exact hq (p, v) (by rw [hpl]; exact hv) hpt
  · rintro t ts env st ⟨x, pre, l, s3, s4, rfl, rfl, hts, hpl, ht1, htd, ht, hq⟩
    cases l with
    | nil => cases hts
    | cons q r =>
      obtain ⟨p, v⟩ := q
      cases hts
      have hmem : (p, v) ∈ book (lam n) := by rw [← hpl]; simp
      have hp := (book_pr hL1 _ hmem).1
      have hp1 := hp.1
      have hpp : Pr p := hp
      simp only [e_var, e_rd, e_sr, e_cst, e_op1, e_op2, e_op3, e_chain, e_band, e_bor, e_ife, e_anil, e_acons, e_lst, e_tup, e_bi, e_call, e_calls, e_sget, ls_l, gV_sh, gR_sh, gR_br, gR_ow, gS_sh, gS_br, gO_ow, gF_ow, gF_sh, sm_some, w_asg1, w_asg, w_asgO, w_par, w_ret, w_drop, w_aug, w_mut, w_seti, w_augi, w_pop, w_frz, w_sset, w_ife, w_skip, w_brk, w_cont, w_seq, kq_ret, kq_bk, kq_ct, kl_bk, kl_ret, br_b, decide_eq_true_eq, decide_eq_false_iff_not, Bool.not_eq_true', Bool.not_eq_false', reduceCtorEq, true_implies, false_implies, forall_const, not_true_eq_false, not_false_eq_true, and_true, true_and, implies_true, sm_add, sm_addI, sm_addL, sm_addT, sm_cat, sm_sub, sm_mul, sm_div, sm_mod, sm_pow, sm_neg, sm_lt, sm_le, sm_gt, sm_ge, sm_eqI, sm_neI, sm_eqB, sm_neB, sm_isN, sm_isNotN, sm_truI, sm_truB, sm_truN, sm_truL, sm_truT, sm_not, sm_ixL, sm_ixT, sm_at0, sm_at1, sm_at2, sm_lenL, sm_lenT, sm_abs, sm_int, sm_intB, sm_max2, sm_min2, sm_listL, sm_listT, sm_tupL, sm_tupT, sm_seqL, sm_seqT, sm_lsL, sm_rng1, sm_rng2, sm_rng3, sm_app, sm_rep1, sm_set1, sm_setN, sm_setC, sm_mixN, sm_mixC, sm_isi, sm_isi2, sm_item0, sm_item1, sm_iset0, sm_iset1, wipe_n, wipe_c, List.set_cons_zero, List.set_cons_succ, List.getElem?_cons_zero, List.getElem?_cons_succ, List.length_cons, List.length_nil, Nat.zero_le, Bool.false_eq_true, if_true, if_false, Bool.not_true, Bool.not_false, Bool.not_not]
      refine W.whl (fun m env st => ∃ y : Nat, env = [.sh (.int a), .sh (.int n), .sh (.int y), .sh (.int p), .sh (.int v)] ∧ st = none ∧ 1 ≤ y ∧ y ∣ lam n ∧ a ^ y % n = 1 % n ∧ (∀ q ∈ pre, q.1 ∣ y → a ^ (y / q.1) % n ≠ 1 % n) ∧ m = y + 1) (x + 1) ⟨x, rfl, rfl, ht1, htd, ht, hq, rfl⟩ ?_
      rintro m env st ⟨y, rfl, rfl, hy1, hyd, hy, hyq, rfl⟩
      have hyL := Nat.le_of_dvd hL1 hyd
      have hpn : p ≤ lam n ∨ True := .inr trivial
      simp only [e_var, e_rd, e_sr, e_cst, e_op1, e_op2, e_op3, e_chain, e_band, e_bor, e_ife, e_anil, e_acons, e_lst, e_tup, e_bi, e_call, e_calls, e_sget, ls_l, gV_sh, gR_sh, gR_br, gR_ow, gS_sh, gS_br, gO_ow, gF_ow, gF_sh, sm_some, w_asg1, w_asg, w_asgO, w_par, w_ret, w_drop, w_aug, w_mut, w_seti, w_augi, w_pop, w_frz, w_sset, w_ife, w_skip, w_brk, w_cont, w_seq, kq_ret, kq_bk, kq_ct, kl_bk, kl_ret, br_b, decide_eq_true_eq, decide_eq_false_iff_not, Bool.not_eq_true', Bool.not_eq_false', reduceCtorEq, true_implies, false_implies, forall_const, not_true_eq_false, not_false_eq_true, and_true, true_and, implies_true, sm_add, sm_addI, sm_addL, sm_addT, sm_cat, sm_sub, sm_mul, sm_div, sm_mod, sm_pow, sm_neg, sm_lt, sm_le, sm_gt, sm_ge, sm_eqI, sm_neI, sm_eqB, sm_neB, sm_isN, sm_isNotN, sm_truI, sm_truB, sm_truN, sm_truL, sm_truT, sm_not, sm_ixL, sm_ixT, sm_at0, sm_at1, sm_at2, sm_lenL, sm_lenT, sm_abs, sm_int, sm_intB, sm_max2, sm_min2, sm_listL, sm_listT, sm_tupL, sm_tupT, sm_seqL, sm_seqT, sm_lsL, sm_rng1, sm_rng2, sm_rng3, sm_app, sm_rep1, sm_set1, sm_setN, sm_setC, sm_mixN, sm_mixC, sm_isi, sm_isi2, sm_item0, sm_item1, sm_iset0, sm_iset1, wipe_n, wipe_c, List.set_cons_zero, List.set_cons_succ, List.getElem?_cons_zero, List.getElem?_cons_succ, List.length_cons, List.length_nil, Nat.zero_le, Bool.false_eq_true, if_true, if_false, Bool.not_true, Bool.not_false, Bool.not_not]
      refine ⟨by omega, fun h0 => ?_, fun h0 => ?_⟩
      · obtain ⟨z, rfl⟩ := md_iff.mp h0
        have hz1 : 1 ≤ z := by
          rcases z with _ | z
          · simp at hy1
          · omega
        have hpy : p ≤ p * z := Nat.le_mul_of_pos_right p hz1
        have hzlt : z < p * z := by
          have : 2 * z ≤ p * z := Nat.mul_le_mul_right _ hp1
          omega
        have hdiv : ((p * z : Nat) : Int) / (p : Int) = (z : Nat) := by
          rw [← Int.natCast_ediv, Nat.mul_div_cancel_left _ (by omega)]
        simp only [e_var, e_rd, e_sr, e_cst, e_op1, e_op2, e_op3, e_chain, e_band, e_bor, e_ife, e_anil, e_acons, e_lst, e_tup, e_bi, e_call, e_calls, e_sget, ls_l, gV_sh, gR_sh, gR_br, gR_ow, gS_sh, gS_br, gO_ow, gF_ow, gF_sh, sm_some, w_asg1, w_asg, w_asgO, w_par, w_ret, w_drop, w_aug, w_mut, w_seti, w_augi, w_pop, w_frz, w_sset, w_ife, w_skip, w_brk, w_cont, w_seq, kq_ret, kq_bk, kq_ct, kl_bk, kl_ret, br_b, decide_eq_true_eq, decide_eq_false_iff_not, Bool.not_eq_true', Bool.not_eq_false', reduceCtorEq, true_implies, false_implies, forall_const, not_true_eq_false, not_false_eq_true, and_true, true_and, implies_true, sm_add, sm_addI, sm_addL, sm_addT, sm_cat, sm_sub, sm_mul, sm_div, sm_mod, sm_pow, sm_neg, sm_lt, sm_le, sm_gt, sm_ge, sm_eqI, sm_neI, sm_eqB, sm_neB, sm_isN, sm_isNotN, sm_truI, sm_truB, sm_truN, sm_truL, sm_truT, sm_not, sm_ixL, sm_ixT, sm_at0, sm_at1, sm_at2, sm_lenL, sm_lenT, sm_abs, sm_int, sm_intB, sm_max2, sm_min2, sm_listL, sm_listT, sm_tupL, sm_tupT, sm_seqL, sm_seqT, sm_lsL, sm_rng1, sm_rng2, sm_rng3, sm_app, sm_rep1, sm_set1, sm_setN, sm_setC, sm_mixN, sm_mixC, sm_isi, sm_isi2, sm_item0, sm_item1, sm_iset0, sm_iset1, wipe_n, wipe_c, List.set_cons_zero, List.set_cons_succ, List.getElem?_cons_zero, List.getElem?_cons_succ, List.length_cons, List.length_nil, Nat.zero_le, Bool.false_eq_true, if_true, if_false, Bool.not_true, Bool.not_false, Bool.not_not, hdiv]
        refine ⟨div_sm, sm_power_by (by omega) (by omega) (by omega) ?_⟩
        rw [Int.toNat_natCast, cast_pow_mod]
        have e1 : (1 : Int) % (n : Int) = ((1 % n : Nat) : Int) := by rw [Int.natCast_emod]; rfl
        (try simp only [e_var, e_rd, e_sr, e_cst, e_op1, e_op2, e_op3, e_chain, e_band, e_bor, e_ife, e_anil, e_acons, e_lst, e_tup, e_bi, e_call, e_calls, e_sget, ls_l, gV_sh, gR_sh, gR_br, gR_ow, gS_sh, gS_br, gO_ow, gF_ow, gF_sh, sm_some, w_asg1, w_asg, w_asgO, w_par, w_ret, w_drop, w_aug, w_mut, w_seti, w_augi, w_pop, w_frz, w_sset, w_ife, w_skip, w_brk, w_cont, w_seq, kq_ret, kq_bk, kq_ct, kl_bk, kl_ret, br_b, decide_eq_true_eq, decide_eq_false_iff_not, Bool.not_eq_true', Bool.not_eq_false', reduceCtorEq, true_implies, false_implies, forall_const, not_true_eq_false, not_false_eq_true, and_true, true_and, implies_true, sm_add, sm_addI, sm_addL, sm_addT, sm_cat, sm_sub, sm_mul, sm_div, sm_mod, sm_pow, sm_neg, sm_lt, sm_le, sm_gt, sm_ge, sm_eqI, sm_neI, sm_eqB, sm_neB, sm_isN, sm_isNotN, sm_truI, sm_truB, sm_truN, sm_truL, sm_truT, sm_not, sm_ixL, sm_ixT, sm_at0, sm_at1, sm_at2, sm_lenL, sm_lenT, sm_abs, sm_int, sm_intB, sm_max2, sm_min2, sm_listL, sm_listT, sm_tupL, sm_tupT, sm_seqL, sm_seqT, sm_lsL, sm_rng1, sm_rng2, sm_rng3, sm_app, sm_rep1, sm_set1, sm_setN, sm_setC, sm_mixN, sm_mixC, sm_isi, sm_isi2, sm_item0, sm_item1, sm_iset0, sm_iset1, wipe_n, wipe_c, List.set_cons_zero, List.set_cons_succ, List.getElem?_cons_zero, List.getElem?_cons_succ, List.length_cons, List.length_nil, Nat.zero_le, Bool.false_eq_true, if_true, if_false, Bool.not_true, Bool.not_false, Bool.not_not, e1])
        refine ⟨by omega, fun h2 => ⟨div_sm, z + 1, by omega, z, rfl, rfl, hz1, Nat.dvd_trans (Nat.dvd_mul_left z p) hyd, by exact_mod_cast h2, fun q hqm hqz hbad => ?_, rfl⟩, fun h2 => ?_⟩
        · have hqp : Pr q.1 := (book_pr hL1 q (by rw [← hpl]; exact List.mem_append_left _ hqm)).1
          obtain ⟨w, hw⟩ := hqz
          refine hyq q hqm ⟨p * w, by rw [hw]; grind⟩ ?_
          have e2 : p * z / q.1 = z / q.1 * p := by
            rw [hw, Nat.mul_div_cancel_left _ hqp.pos, show p * (q.1 * w) = q.1 * (w * p) by grind, Nat.mul_div_cancel_left _ hqp.pos]
          rw [e2]
          exact pow_mul_one hbad
        · refine ⟨p * z, pre ++ [(p, v)], r, _, _, rfl, rfl, rfl, by rw [← hpl]; simp, hy1, hyd, hy, fun q hqm hqd => ?_⟩
          rcases List.mem_append.mp hqm with h3 | h3
          · exact hyq q h3 hqd
          · simp only [List.mem_cons, List.not_mem_nil, or_false] at h3
            subst h3
            show a ^ (p * z / p) % n ≠ 1 % n
            rw [Nat.mul_div_cancel_left _ hpp.pos]
            intro h4
            exact h2 (by exact_mod_cast h4)
      · have hnd : ¬ p ∣ y := fun c => h0 (md_iff.mpr c)
        refine ⟨y, pre ++ [(p, v)], r, _, _, rfl, rfl, rfl, by rw [← hpl]; simp, hy1, hyd, hy, fun q hqm hqd => ?_⟩
        rcases List.mem_append.mp hqm with h3 | h3
        · exact hyq q h3 hqd
        · simp only [List.mem_cons, List.not_mem_nil, or_false] at h3
          subst h3
          exact absurd hqd hnd
noncomputable def fs_order_of : List D → Option D := FV 2 5 (z_order_of fs_greatest_order fs_prime_powers fs_power_by)
theorem sm_order_of {i j : Int} {a n : Nat} {Q : D → Prop} (ei : i = a) (ej : j = n) (h1 : 1 ≤ n) (hn : n < 1152921504606846976) (hc : Nat.Coprime a n) (q : ∀ d : Nat, IsOrd a n d → Q (.int d)) : Sm (fs_order_of [.int i, .int j]) Q := by
  subst ei ej
  exact FV.sm rfl ((w_order_of h1 hn hc).mono fun o ⟨d, e, h⟩ => ⟨_, _, e, q d h⟩)
end ZC
namespace ZC
open PySem PySem.Spec PyProof.Rows L2 Z ZM
theorem w__law_gcd {a b : Nat} : W z__law_gcd [.sh (.int a), .sh (.int b)] none (fun o => o = .ret (.int (Nat.gcd a b : Nat)) none) := by
  unfold z__law_gcd
  simp only [e_var, e_rd, e_sr, e_cst, e_op1, e_op2, e_op3, e_chain, e_band, e_bor, e_ife, e_anil, e_acons, e_lst, e_tup, e_bi, e_call, e_calls, e_sget, ls_l, gV_sh, gR_sh, gR_br, gR_ow, gS_sh, gS_br, gO_ow, gF_ow, gF_sh, sm_some, w_asg1, w_asg, w_asgO, w_par, w_ret, w_drop, w_aug, w_mut, w_seti, w_augi, w_pop, w_frz, w_sset, w_ife, w_skip, w_brk, w_cont, w_seq, kq_ret, kq_bk, kq_ct, kl_bk, kl_ret, br_b, decide_eq_true_eq, decide_eq_false_iff_not, Bool.not_eq_true', Bool.not_eq_false', reduceCtorEq, true_implies, false_implies, forall_const, not_true_eq_false, not_false_eq_true, and_true, true_and, implies_true, sm_add, sm_addI, sm_addL, sm_addT, sm_cat, sm_sub, sm_mul, sm_div, sm_mod, sm_pow, sm_neg, sm_lt, sm_le, sm_gt, sm_ge, sm_eqI, sm_neI, sm_eqB, sm_neB, sm_isN, sm_isNotN, sm_truI, sm_truB, sm_truN, sm_truL, sm_truT, sm_not, sm_ixL, sm_ixT, sm_at0, sm_at1, sm_at2, sm_lenL, sm_lenT, sm_abs, sm_int, sm_intB, sm_max2, sm_min2, sm_listL, sm_listT, sm_tupL, sm_tupT, sm_seqL, sm_seqT, sm_lsL, sm_rng1, sm_rng2, sm_rng3, sm_app, sm_rep1, sm_set1, sm_setN, sm_setC, sm_mixN, sm_mixC, sm_isi, sm_isi2, sm_item0, sm_item1, sm_iset0, sm_iset1, wipe_n, wipe_c, List.set_cons_zero, List.set_cons_succ, List.getElem?_cons_zero, List.getElem?_cons_succ, List.length_cons, List.length_nil, Nat.zero_le, Bool.false_eq_true, if_true, if_false, Bool.not_true, Bool.not_false, Bool.not_not, kq_nx]
  rw [if_neg (by omega), if_neg (by omega)]
  refine W.whl (fun m env st => ∃ x y : Nat, env = [.sh (.int x), .sh (.int y)] ∧ st = none ∧ Nat.gcd x y = Nat.gcd a b ∧ m = y + 1) (b + 1) ⟨a, b, rfl, rfl, rfl, rfl⟩ ?_
  rintro m env st ⟨x, y, rfl, rfl, hg, rfl⟩
  simp only [e_var, e_rd, e_sr, e_cst, e_op1, e_op2, e_op3, e_chain, e_band, e_bor, e_ife, e_anil, e_acons, e_lst, e_tup, e_bi, e_call, e_calls, e_sget, ls_l, gV_sh, gR_sh, gR_br, gR_ow, gS_sh, gS_br, gO_ow, gF_ow, gF_sh, sm_some, w_asg1, w_asg, w_asgO, w_par, w_ret, w_drop, w_aug, w_mut, w_seti, w_augi, w_pop, w_frz, w_sset, w_ife, w_skip, w_brk, w_cont, w_seq, kq_ret, kq_bk, kq_ct, kl_bk, kl_ret, br_b, decide_eq_true_eq, decide_eq_false_iff_not, Bool.not_eq_true', Bool.not_eq_false', reduceCtorEq, true_implies, false_implies, forall_const, not_true_eq_false, not_false_eq_true, and_true, true_and, implies_true, sm_add, sm_addI, sm_addL, sm_addT, sm_cat, sm_sub, sm_mul, sm_div, sm_mod, sm_pow, sm_neg, sm_lt, sm_le, sm_gt, sm_ge, sm_eqI, sm_neI, sm_eqB, sm_neB, sm_isN, sm_isNotN, sm_truI, sm_truB, sm_truN, sm_truL, sm_truT, sm_not, sm_ixL, sm_ixT, sm_at0, sm_at1, sm_at2, sm_lenL, sm_lenT, sm_abs, sm_int, sm_intB, sm_max2, sm_min2, sm_listL, sm_listT, sm_tupL, sm_tupT, sm_seqL, sm_seqT, sm_lsL, sm_rng1, sm_rng2, sm_rng3, sm_app, sm_rep1, sm_set1, sm_setN, sm_setC, sm_mixN, sm_mixC, sm_isi, sm_isi2, sm_item0, sm_item1, sm_iset0, sm_iset1, wipe_n, wipe_c, List.set_cons_zero, List.set_cons_succ, List.getElem?_cons_zero, List.getElem?_cons_succ, List.length_cons, List.length_nil, Nat.zero_le, Bool.false_eq_true, if_true, if_false, Bool.not_true, Bool.not_false, Bool.not_not, kq_nx]
  refine ⟨fun h0 => ⟨h0, x % y + 1, ?_, y, x % y, ?_, rfl, ?_, rfl⟩, fun h0 => ?_⟩
  · have := Nat.mod_lt x (show 0 < y by omega); omega
  · rw [Int.natCast_emod]
  · rw [← hg, Nat.gcd_comm x y, Nat.gcd_comm y, ← Nat.gcd_rec]
  · have : y = 0 := by omega
    subst this
    rw [← hg, Nat.gcd_zero_right]
noncomputable def fs__law_gcd : List D → Option D := FV 2 2 z__law_gcd
theorem sm__law_gcd {i j : Int} {a b : Nat} {Q : D → Prop} (ei : i = a) (ej : j = b) (q : Q (.int (Nat.gcd a b : Nat))) : Sm (fs__law_gcd [.int i, .int j]) Q := by
  subst ei ej; exact FV.sm1 rfl w__law_gcd q

/-! ### the law's own prime powers -/
theorem w__law_powers {n : Nat} (h1 : 1 ≤ n) (hn : n < 1152921504606846976) : W z__law_powers [.sh (.int n), .no, .no, .no] none (fun o => o = .ret (.list (bookD (book n))) none) := by
  have hlen : (book n).length ≤ 60 := book_len_log (by omega)
  unfold z__law_powers
  simp only [e_var, e_rd, e_sr, e_cst, e_op1, e_op2, e_op3, e_chain, e_band, e_bor, e_ife, e_anil, e_acons, e_lst, e_tup, e_bi, e_call, e_calls, e_sget, ls_l, gV_sh, gR_sh, gR_br, gR_ow, gS_sh, gS_br, gO_ow, gF_ow, gF_sh, sm_some, w_asg1, w_asg, w_asgO, w_par, w_ret, w_drop, w_aug, w_mut, w_seti, w_augi, w_pop, w_frz, w_sset, w_ife, w_skip, w_brk, w_cont, w_seq, kq_ret, kq_bk, kq_ct, kl_bk, kl_ret, br_b, decide_eq_true_eq, decide_eq_false_iff_not, Bool.not_eq_true', Bool.not_eq_false', reduceCtorEq, true_implies, false_implies, forall_const, not_true_eq_false, not_false_eq_true, and_true, true_and, implies_true, sm_add, sm_addI, sm_addL, sm_addT, sm_cat, sm_sub, sm_mul, sm_div, sm_mod, sm_pow, sm_neg, sm_lt, sm_le, sm_gt, sm_ge, sm_eqI, sm_neI, sm_eqB, sm_neB, sm_isN, sm_isNotN, sm_truI, sm_truB, sm_truN, sm_truL, sm_truT, sm_not, sm_ixL, sm_ixT, sm_at0, sm_at1, sm_at2, sm_lenL, sm_lenT, sm_abs, sm_int, sm_intB, sm_max2, sm_min2, sm_listL, sm_listT, sm_tupL, sm_tupT, sm_seqL, sm_seqT, sm_lsL, sm_rng1, sm_rng2, sm_rng3, sm_app, sm_rep1, sm_set1, sm_setN, sm_setC, sm_mixN, sm_mixC, sm_isi, sm_isi2, sm_item0, sm_item1, sm_iset0, sm_iset1, wipe_n, wipe_c, List.set_cons_zero, List.set_cons_succ, List.getElem?_cons_zero, List.getElem?_cons_succ, List.length_cons, List.length_nil, Nat.zero_le, Bool.false_eq_true, if_true, if_false, Bool.not_true, Bool.not_false, Bool.not_not, kq_nx]
  refine W.whl (fun m env st => ∃ (k p : Nat) (pre : List (Nat × Nat)) (s3 : Sl), env = [.sh (.int k), .sh (.list (bookD pre)), .sh (.int p), s3] ∧ st = none ∧ 1 ≤ k ∧ k ≤ n ∧ pre ++ book k = book n ∧ 2 ≤ p ∧ p ≤ n + 2 ∧ (∀ e, 2 ≤ e → e < p → ¬ e ∣ k) ∧ m = k + (n + 2 - p)) (n + (n + 2 - 2)) ⟨n, 2, [], _, rfl, rfl, h1, Nat.le_refl _, rfl, Nat.le_refl _, by omega, fun e _ _ => by omega, rfl⟩ ?_
  rintro m env st ⟨k, p, pre, s3, rfl, rfl, hk1, hkn, hb, hp2, hpn, hd, rfl⟩
  have hpl : pre.length ≤ 60 := by
    have : pre.length ≤ (book n).length := by rw [← hb]; simp
    omega
  simp only [e_var, e_rd, e_sr, e_cst, e_op1, e_op2, e_op3, e_chain, e_band, e_bor, e_ife, e_anil, e_acons, e_lst, e_tup, e_bi, e_call, e_calls, e_sget, ls_l, gV_sh, gR_sh, gR_br, gR_ow, gS_sh, gS_br, gO_ow, gF_ow, gF_sh, sm_some, w_asg1, w_asg, w_asgO, w_par, w_ret, w_drop, w_aug, w_mut, w_seti, w_augi, w_pop, w_frz, w_sset, w_ife, w_skip, w_brk, w_cont, w_seq, kq_ret, kq_bk, kq_ct, kl_bk, kl_ret, br_b, decide_eq_true_eq, decide_eq_false_iff_not, Bool.not_eq_true', Bool.not_eq_false', reduceCtorEq, true_implies, false_implies, forall_const, not_true_eq_false, not_false_eq_true, and_true, true_and, implies_true, sm_add, sm_addI, sm_addL, sm_addT, sm_cat, sm_sub, sm_mul, sm_div, sm_mod, sm_pow, sm_neg, sm_lt, sm_le, sm_gt, sm_ge, sm_eqI, sm_neI, sm_eqB, sm_neB, sm_isN, sm_isNotN, sm_truI, sm_truB, sm_truN, sm_truL, sm_truT, sm_not, sm_ixL, sm_ixT, sm_at0, sm_at1, sm_at2, sm_lenL, sm_lenT, sm_abs, sm_int, sm_intB, sm_max2, sm_min2, sm_listL, sm_listT, sm_tupL, sm_tupT, sm_seqL, sm_seqT, sm_lsL, sm_rng1, sm_rng2, sm_rng3, sm_app, sm_rep1, sm_set1, sm_setN, sm_setC, sm_mixN, sm_mixC, sm_isi, sm_isi2, sm_item0, sm_item1, sm_iset0, sm_iset1, wipe_n, wipe_c, List.set_cons_zero, List.set_cons_succ, List.getElem?_cons_zero, List.getElem?_cons_succ, List.length_cons, List.length_nil, Nat.zero_le, Bool.false_eq_true, if_true, if_false, Bool.not_true, Bool.not_false, Bool.not_not]
  refine ⟨mul_sm, fun hle => ?_, fun hle => ?_⟩
  · have hle' : p * p ≤ k := by exact_mod_cast hle
    have hpk : p < k := by
      have : 2 * p ≤ p * p := Nat.mul_le_mul_right _ hp2
      omega
    rw [kq_nx]
    simp only [e_var, e_rd, e_sr, e_cst, e_op1, e_op2, e_op3, e_chain, e_band, e_bor, e_ife, e_anil, e_acons, e_lst, e_tup, e_bi, e_call, e_calls, e_sget, ls_l, gV_sh, gR_sh, gR_br, gR_ow, gS_sh, gS_br, gO_ow, gF_ow, gF_sh, sm_some, w_asg1, w_asg, w_asgO, w_par, w_ret, w_drop, w_aug, w_mut, w_seti, w_augi, w_pop, w_frz, w_sset, w_ife, w_skip, w_brk, w_cont, w_seq, kq_ret, kq_bk, kq_ct, kl_bk, kl_ret, br_b, decide_eq_true_eq, decide_eq_false_iff_not, Bool.not_eq_true', Bool.not_eq_false', reduceCtorEq, true_implies, false_implies, forall_const, not_true_eq_false, not_false_eq_true, and_true, true_and, implies_true, sm_add, sm_addI, sm_addL, sm_addT, sm_cat, sm_sub, sm_mul, sm_div, sm_mod, sm_pow, sm_neg, sm_lt, sm_le, sm_gt, sm_ge, sm_eqI, sm_neI, sm_eqB, sm_neB, sm_isN, sm_isNotN, sm_truI, sm_truB, sm_truN, sm_truL, sm_truT, sm_not, sm_ixL, sm_ixT, sm_at0, sm_at1, sm_at2, sm_lenL, sm_lenT, sm_abs, sm_int, sm_intB, sm_max2, sm_min2, sm_listL, sm_listT, sm_tupL, sm_tupT, sm_seqL, sm_seqT, sm_lsL, sm_rng1, sm_rng2, sm_rng3, sm_app, sm_rep1, sm_set1, sm_setN, sm_setC, sm_mixN, sm_mixC, sm_isi, sm_isi2, sm_item0, sm_item1, sm_iset0, sm_iset1, wipe_n, wipe_c, List.set_cons_zero, List.set_cons_succ, List.getElem?_cons_zero, List.getElem?_cons_succ, List.length_cons, List.length_nil, Nat.zero_le, Bool.false_eq_true, if_true, if_false, Bool.not_true, Bool.not_false, Bool.not_not]
    refine W.whl (fun m env st => ∃ (j v : Nat), env = [.sh (.int j), .sh (.list (bookD pre)), .sh (.int p), .sh (.int v)] ∧ st = none ∧ 1 ≤ j ∧ k = p ^ v * j ∧ m = j + 1) (k + 1) ⟨k, 0, rfl, rfl, hk1, by simp, rfl⟩ ?_
    rintro m env st ⟨j, v, rfl, rfl, hj1, hjk, rfl⟩
    have hjk' : j ≤ k := by
      have := Nat.le_mul_of_pos_left j (Nat.pow_pos (n := v) (show 0 < p by omega))
      omega
    simp only [e_var, e_rd, e_sr, e_cst, e_op1, e_op2, e_op3, e_chain, e_band, e_bor, e_ife, e_anil, e_acons, e_lst, e_tup, e_bi, e_call, e_calls, e_sget, ls_l, gV_sh, gR_sh, gR_br, gR_ow, gS_sh, gS_br, gO_ow, gF_ow, gF_sh, sm_some, w_asg1, w_asg, w_asgO, w_par, w_ret, w_drop, w_aug, w_mut, w_seti, w_augi, w_pop, w_frz, w_sset, w_ife, w_skip, w_brk, w_cont, w_seq, kq_ret, kq_bk, kq_ct, kl_bk, kl_ret, br_b, decide_eq_true_eq, decide_eq_false_iff_not, Bool.not_eq_true', Bool.not_eq_false', reduceCtorEq, true_implies, false_implies, forall_const, not_true_eq_false, not_false_eq_true, and_true, true_and, implies_true, sm_add, sm_addI, sm_addL, sm_addT, sm_cat, sm_sub, sm_mul, sm_div, sm_mod, sm_pow, sm_neg, sm_lt, sm_le, sm_gt, sm_ge, sm_eqI, sm_neI, sm_eqB, sm_neB, sm_isN, sm_isNotN, sm_truI, sm_truB, sm_truN, sm_truL, sm_truT, sm_not, sm_ixL, sm_ixT, sm_at0, sm_at1, sm_at2, sm_lenL, sm_lenT, sm_abs, sm_int, sm_intB, sm_max2, sm_min2, sm_listL, sm_listT, sm_tupL, sm_tupT, sm_seqL, sm_seqT, sm_lsL, sm_rng1, sm_rng2, sm_rng3, sm_app, sm_rep1, sm_set1, sm_setN, sm_setC, sm_mixN, sm_mixC, sm_isi, sm_isi2, sm_item0, sm_item1, sm_iset0, sm_iset1, wipe_n, wipe_c, List.set_cons_zero, List.set_cons_succ, List.getElem?_cons_zero, List.getElem?_cons_succ, List.length_cons, List.length_nil, Nat.zero_le, Bool.false_eq_true, if_true, if_false, Bool.not_true, Bool.not_false, Bool.not_not]
    refine ⟨by omega, fun h0 => ?_, fun h0 => ?_⟩
    · obtain ⟨i, rfl⟩ := md_iff.mp h0
      have hi1 : 1 ≤ i := by
        rcases i with _ | i
        · simp at hj1
        · omega
      have hlt : i < p * i := by
        have : 2 * i ≤ p * i := Nat.mul_le_mul_right _ hp2
        omega
      have hdiv : ((p * i : Nat) : Int) / (p : Int) = (i : Nat) := by
        rw [← Int.natCast_ediv, Nat.mul_div_cancel_left _ (by omega)]
      simp only [e_var, e_rd, e_sr, e_cst, e_op1, e_op2, e_op3, e_chain, e_band, e_bor, e_ife, e_anil, e_acons, e_lst, e_tup, e_bi, e_call, e_calls, e_sget, ls_l, gV_sh, gR_sh, gR_br, gR_ow, gS_sh, gS_br, gO_ow, gF_ow, gF_sh, sm_some, w_asg1, w_asg, w_asgO, w_par, w_ret, w_drop, w_aug, w_mut, w_seti, w_augi, w_pop, w_frz, w_sset, w_ife, w_skip, w_brk, w_cont, w_seq, kq_ret, kq_bk, kq_ct, kl_bk, kl_ret, br_b, decide_eq_true_eq, decide_eq_false_iff_not, Bool.not_eq_true', Bool.not_eq_false', reduceCtorEq, true_implies, false_implies, forall_const, not_true_eq_false, not_false_eq_true, and_true, true_and, implies_true, sm_add, sm_addI, sm_addL, sm_addT, sm_cat, sm_sub, sm_mul, sm_div, sm_mod, sm_pow, sm_neg, sm_lt, sm_le, sm_gt, sm_ge, sm_eqI, sm_neI, sm_eqB, sm_neB, sm_isN, sm_isNotN, sm_truI, sm_truB, sm_truN, sm_truL, sm_truT, sm_not, sm_ixL, sm_ixT, sm_at0, sm_at1, sm_at2, sm_lenL, sm_lenT, sm_abs, sm_int, sm_intB, sm_max2, sm_min2, sm_listL, sm_listT, sm_tupL, sm_tupT, sm_seqL, sm_seqT, sm_lsL, sm_rng1, sm_rng2, sm_rng3, sm_app, sm_rep1, sm_set1, sm_setN, sm_setC, sm_mixN, sm_mixC, sm_isi, sm_isi2, sm_item0, sm_item1, sm_iset0, sm_iset1, wipe_n, wipe_c, List.set_cons_zero, List.set_cons_succ, List.getElem?_cons_zero, List.getElem?_cons_succ, List.length_cons, List.length_nil, Nat.zero_le, Bool.false_eq_true, if_true, if_false, Bool.not_true, Bool.not_false, Bool.not_not, hdiv]
      exact ⟨div_sm, i + 1, by omega, i, v + 1, rfl, rfl, hi1, by rw [Nat.pow_succ, Nat.mul_assoc]; exact hjk, rfl⟩
    · have hdv : ¬ p ∣ j := fun c => h0 (md_iff.mpr c)
      obtain ⟨ev, er⟩ := va_of hp2 hk1 hjk hdv
      have step : ∀ q, 2 ≤ q → q < p + 1 → ¬ q ∣ j := by
        intro q h2 hlt hq
        by_cases c : q = p
        · subst c; exact hdv hq
        · exact hd q h2 (by omega) (by rw [hjk]; exact Nat.dvd_trans hq (Nat.dvd_mul_left _ _))
      rw [kq_nx]
      refine W.cut (P := fun o => ∃ (pre' : List (Nat × Nat)), o = .nx [.sh (.int j), .sh (.list (bookD pre')), .sh (.int p), .sh (.int v)] none ∧ pre' ++ book j = book n) ?_ ?_
      · simp only [e_var, e_rd, e_sr, e_cst, e_op1, e_op2, e_op3, e_chain, e_band, e_bor, e_ife, e_anil, e_acons, e_lst, e_tup, e_bi, e_call, e_calls, e_sget, ls_l, gV_sh, gR_sh, gR_br, gR_ow, gS_sh, gS_br, gO_ow, gF_ow, gF_sh, sm_some, w_asg1, w_asg, w_asgO, w_par, w_ret, w_drop, w_aug, w_mut, w_seti, w_augi, w_pop, w_frz, w_sset, w_ife, w_skip, w_brk, w_cont, w_seq, kq_ret, kq_bk, kq_ct, kl_bk, kl_ret, br_b, decide_eq_true_eq, decide_eq_false_iff_not, Bool.not_eq_true', Bool.not_eq_false', reduceCtorEq, true_implies, false_implies, forall_const, not_true_eq_false, not_false_eq_true, and_true, true_and, implies_true, sm_add, sm_addI, sm_addL, sm_addT, sm_cat, sm_sub, sm_mul, sm_div, sm_mod, sm_pow, sm_neg, sm_lt, sm_le, sm_gt, sm_ge, sm_eqI, sm_neI, sm_eqB, sm_neB, sm_isN, sm_isNotN, sm_truI, sm_truB, sm_truN, sm_truL, sm_truT, sm_not, sm_ixL, sm_ixT, sm_at0, sm_at1, sm_at2, sm_lenL, sm_lenT, sm_abs, sm_int, sm_intB, sm_max2, sm_min2, sm_listL, sm_listT, sm_tupL, sm_tupT, sm_seqL, sm_seqT, sm_lsL, sm_rng1, sm_rng2, sm_rng3, sm_app, sm_rep1, sm_set1, sm_setN, sm_setC, sm_mixN, sm_mixC, sm_isi, sm_isi2, sm_item0, sm_item1, sm_iset0, sm_iset1, wipe_n, wipe_c, List.set_cons_zero, List.set_cons_succ, List.getElem?_cons_zero, List.getElem?_cons_succ, List.length_cons, List.length_nil, Nat.zero_le, Bool.false_eq_true, if_true, if_false, Bool.not_true, Bool.not_false, Bool.not_not]
        refine ⟨fun hv => ⟨by omega, by omega, by rw [bookD_len]; omega, pre ++ [(p, v)], by rw [← bookD_app]; rfl, ?_⟩, fun hv => ⟨by rw [bookD_len]; omega, pre, by rw [List.append_nil], ?_⟩⟩
        · have hpk2 : p ∣ k := by
            rw [hjk]
            obtain ⟨w, rfl⟩ : ∃ w, v = w + 1 := ⟨v - 1, by omega⟩
            rw [Nat.pow_succ]
            exact Nat.dvd_trans (Nat.dvd_mul_left p (p ^ w)) (Nat.dvd_mul_right _ _)
          have hlf : lf k = p := lf_eq (by omega) hp2 hpk2 hd
          rw [← hb, book_step (n := k) (by omega), hlf, ev, er]; simp
        · have hv0 : v = 0 := by omega
          subst hv0
          have : k = j := by simpa using hjk
          rw [← this]; exact hb
      · rintro o ⟨pre', rfl, hb'⟩
        rw [kq_nx]
        simp only [e_var, e_rd, e_sr, e_cst, e_op1, e_op2, e_op3, e_chain, e_band, e_bor, e_ife, e_anil, e_acons, e_lst, e_tup, e_bi, e_call, e_calls, e_sget, ls_l, gV_sh, gR_sh, gR_br, gR_ow, gS_sh, gS_br, gO_ow, gF_ow, gF_sh, sm_some, w_asg1, w_asg, w_asgO, w_par, w_ret, w_drop, w_aug, w_mut, w_seti, w_augi, w_pop, w_frz, w_sset, w_ife, w_skip, w_brk, w_cont, w_seq, kq_ret, kq_bk, kq_ct, kl_bk, kl_ret, br_b, decide_eq_true_eq, decide_eq_false_iff_not, Bool.not_eq_true', Bool.not_eq_false', reduceCtorEq, true_implies, false_implies, forall_const, not_true_eq_false, not_false_eq_true, and_true, true_and, implies_true, sm_add, sm_addI, sm_addL, sm_addT, sm_cat, sm_sub, sm_mul, sm_div, sm_mod, sm_pow, sm_neg, sm_lt, sm_le, sm_gt, sm_ge, sm_eqI, sm_neI, sm_eqB, sm_neB, sm_isN, sm_isNotN, sm_truI, sm_truB, sm_truN, sm_truL, sm_truT, sm_not, sm_ixL, sm_ixT, sm_at0, sm_at1, sm_at2, sm_lenL, sm_lenT, sm_abs, sm_int, sm_intB, sm_max2, sm_min2, sm_listL, sm_listT, sm_tupL, sm_tupT, sm_seqL, sm_seqT, sm_lsL, sm_rng1, sm_rng2, sm_rng3, sm_app, sm_rep1, sm_set1, sm_setN, sm_setC, sm_mixN, sm_mixC, sm_isi, sm_isi2, sm_item0, sm_item1, sm_iset0, sm_iset1, wipe_n, wipe_c, List.set_cons_zero, List.set_cons_succ, List.getElem?_cons_zero, List.getElem?_cons_succ, List.length_cons, List.length_nil, Nat.zero_le, Bool.false_eq_true, if_true, if_false, Bool.not_true, Bool.not_false, Bool.not_not]
        exact ⟨j + (n + 2 - (p + 1)), by omega, j, p + 1, pre', _, rfl, rfl, hj1, by omega, hb', by omega, by omega, step, rfl⟩
  · have hlt : k < p * p := by
      have : ¬ p * p ≤ k := fun c => hle (by exact_mod_cast c)
      omega
    rw [kq_nx]
    simp only [e_var, e_rd, e_sr, e_cst, e_op1, e_op2, e_op3, e_chain, e_band, e_bor, e_ife, e_anil, e_acons, e_lst, e_tup, e_bi, e_call, e_calls, e_sget, ls_l, gV_sh, gR_sh, gR_br, gR_ow, gS_sh, gS_br, gO_ow, gF_ow, gF_sh, sm_some, w_asg1, w_asg, w_asgO, w_par, w_ret, w_drop, w_aug, w_mut, w_seti, w_augi, w_pop, w_frz, w_sset, w_ife, w_skip, w_brk, w_cont, w_seq, kq_ret, kq_bk, kq_ct, kl_bk, kl_ret, br_b, decide_eq_true_eq, decide_eq_false_iff_not, Bool.not_eq_true', Bool.not_eq_false', reduceCtorEq, true_implies, false_implies, forall_const, not_true_eq_false, not_false_eq_true, and_true, true_and, implies_true, sm_add, sm_addI, sm_addL, sm_addT, sm_cat, sm_sub, sm_mul, sm_div, sm_mod, sm_pow, sm_neg, sm_lt, sm_le, sm_gt, sm_ge, sm_eqI, sm_neI, sm_eqB, sm_neB, sm_isN, sm_isNotN, sm_truI, sm_truB, sm_truN, sm_truL, sm_truT, sm_not, sm_ixL, sm_ixT, sm_at0, sm_at1, sm_at2, sm_lenL, sm_lenT, sm_abs, sm_int, sm_intB, sm_max2, sm_min2, sm_listL, sm_listT, sm_tupL, sm_tupT, sm_seqL, sm_seqT, sm_lsL, sm_rng1, sm_rng2, sm_rng3, sm_app, sm_rep1, sm_set1, sm_setN, sm_setC, sm_mixN, sm_mixC, sm_isi, sm_isi2, sm_item0, sm_item1, sm_iset0, sm_iset1, wipe_n, wipe_c, List.set_cons_zero, List.set_cons_succ, List.getElem?_cons_zero, List.getElem?_cons_succ, List.length_cons, List.length_nil, Nat.zero_le, Bool.false_eq_true, if_true, if_false, Bool.not_true, Bool.not_false, Bool.not_not]
    refine ⟨fun h2 => ⟨by omega, by omega, by rw [bookD_len]; omega, ?_⟩, fun h2 => ⟨by rw [bookD_len]; omega, ?_⟩⟩
    · have hk2 : 2 ≤ k := by omega
      have hP : Pr k := by
        by_cases c : Pr k
        · exact c
        · obtain ⟨a, b, e⟩ := small_div hk2 c
          exact absurd b (hd _ a.1 (mul_self_lt (by omega)))
      have hlf : lf k = k := lf_eq hk2 hk2 (Nat.dvd_refl _) hP.2
      obtain ⟨ev, er⟩ := va_of (p := k) (n := k) (v := 1) (m := 1) hk2 (by omega) (by simp) (fun c => by have := Nat.le_of_dvd (by omega) c; omega)
      rw [← hb, book_step hk2, hlf, ev, er, book_one (by omega), ← bookD_app]; rfl
    · have : k = 1 := by omega
      subst this
      rw [book_one (by omega), List.append_nil] at hb
      rw [hb, List.append_nil]
noncomputable def fs__law_powers : List D → Option D := FV 1 4 z__law_powers
theorem sm__law_powers {i : Int} {n : Nat} {Q : D → Prop} (e : i = n) (h1 : 1 ≤ n) (hn : n < 1152921504606846976) (q : Q (.list (bookD (book n)))) : Sm (fs__law_powers [.int i]) Q := by
  subst e; exact FV.sm1 rfl (w__law_powers h1 hn) q
end ZC
namespace ZC
open PySem PySem.Spec PyProof.Rows L2 Z ZM
theorem sm_in2 {x a b : Int} {Q : D → Prop} : Sm (dIn (.int x) (.tuple [.int a, .int b])) Q ↔ Q (.bool (decide (a = x) || decide (b = x))) := by
  show Sm (if flD (.int x) && [PyData.int a, PyData.int b].all flD then some (PyData.bool ([PyData.int a, PyData.int b].any fun t => PyData.eqv t (.int x))) else none) Q ↔ _
  rw [if_pos (by rfl), sm_some]
  simp only [List.any_cons, List.any_nil, Bool.or_false, eqv_int]
def Unit1 (v : Int) : Prop := v = 1 ∨ v = -1
theorem Unit1.neg {v : Int} (h : Unit1 v) : Unit1 (-v) := by rcases h with rfl | rfl <;> unfold Unit1 <;> omega
theorem w_symbol {a n : Int} (hn : 0 < n) : W z_symbol [.sh (.int a), .sh (.int n), .no] none (fun o => ∃ v : Int, o = .ret (.int v) none ∧ (v = 0 ∨ v = 1 ∨ v = -1)) := by
  unfold z_symbol
  simp only [e_var, e_rd, e_sr, e_cst, e_op1, e_op2, e_op3, e_chain, e_band, e_bor, e_ife, e_anil, e_acons, e_lst, e_tup, e_bi, e_call, e_calls, e_sget, ls_l, gV_sh, gR_sh, gR_br, gR_ow, gS_sh, gS_br, gO_ow, gF_ow, gF_sh, sm_some, w_asg1, w_asg, w_asgO, w_par, w_ret, w_drop, w_aug, w_mut, w_seti, w_augi, w_pop, w_frz, w_sset, w_ife, w_skip, w_brk, w_cont, w_seq, kq_ret, kq_bk, kq_ct, kl_bk, kl_ret, br_b, decide_eq_true_eq, decide_eq_false_iff_not, Bool.not_eq_true', Bool.not_eq_false', reduceCtorEq, true_implies, false_implies, forall_const, not_true_eq_false, not_false_eq_true, and_true, true_and, implies_true, sm_add, sm_addI, sm_addL, sm_addT, sm_cat, sm_sub, sm_mul, sm_div, sm_mod, sm_pow, sm_neg, sm_lt, sm_le, sm_gt, sm_ge, sm_eqI, sm_neI, sm_eqB, sm_neB, sm_isN, sm_isNotN, sm_truI, sm_truB, sm_truN, sm_truL, sm_truT, sm_not, sm_ixL, sm_ixT, sm_at0, sm_at1, sm_at2, sm_lenL, sm_lenT, sm_abs, sm_int, sm_intB, sm_max2, sm_min2, sm_listL, sm_listT, sm_tupL, sm_tupT, sm_seqL, sm_seqT, sm_lsL, sm_rng1, sm_rng2, sm_rng3, sm_app, sm_rep1, sm_set1, sm_setN, sm_setC, sm_mixN, sm_mixC, sm_isi, sm_isi2, sm_item0, sm_item1, sm_iset0, sm_iset1, wipe_n, wipe_c, List.set_cons_zero, List.set_cons_succ, List.getElem?_cons_zero, List.getElem?_cons_succ, List.length_cons, List.length_nil, Nat.zero_le, Bool.false_eq_true, if_true, if_false, Bool.not_true, Bool.not_false, Bool.not_not, kq_nx]
  refine ⟨hn, ?_⟩
  refine W.whl (fun m env st => ∃ x y t : Int, env = [.sh (.int x), .sh (.int y), .sh (.int t)] ∧ st = none ∧ 0 ≤ x ∧ x < y ∧ Unit1 t ∧ m = y.toNat) n.toNat ⟨a % n, n, 1, rfl, rfl, Int.emod_nonneg _ (by omega), Int.emod_lt_of_pos _ hn, .inl rfl, rfl⟩ ?_
  rintro m env st ⟨x, y, t, rfl, rfl, hx0, hxy, ht, rfl⟩
  simp only [e_var, e_rd, e_sr, e_cst, e_op1, e_op2, e_op3, e_chain, e_band, e_bor, e_ife, e_anil, e_acons, e_lst, e_tup, e_bi, e_call, e_calls, e_sget, ls_l, gV_sh, gR_sh, gR_br, gR_ow, gS_sh, gS_br, gO_ow, gF_ow, gF_sh, sm_some, w_asg1, w_asg, w_asgO, w_par, w_ret, w_drop, w_aug, w_mut, w_seti, w_augi, w_pop, w_frz, w_sset, w_ife, w_skip, w_brk, w_cont, w_seq, kq_ret, kq_bk, kq_ct, kl_bk, kl_ret, br_b, decide_eq_true_eq, decide_eq_false_iff_not, Bool.not_eq_true', Bool.not_eq_false', reduceCtorEq, true_implies, false_implies, forall_const, not_true_eq_false, not_false_eq_true, and_true, true_and, implies_true, sm_add, sm_addI, sm_addL, sm_addT, sm_cat, sm_sub, sm_mul, sm_div, sm_mod, sm_pow, sm_neg, sm_lt, sm_le, sm_gt, sm_ge, sm_eqI, sm_neI, sm_eqB, sm_neB, sm_isN, sm_isNotN, sm_truI, sm_truB, sm_truN, sm_truL, sm_truT, sm_not, sm_ixL, sm_ixT, sm_at0, sm_at1, sm_at2, sm_lenL, sm_lenT, sm_abs, sm_int, sm_intB, sm_max2, sm_min2, sm_listL, sm_listT, sm_tupL, sm_tupT, sm_seqL, sm_seqT, sm_lsL, sm_rng1, sm_rng2, sm_rng3, sm_app, sm_rep1, sm_set1, sm_setN, sm_setC, sm_mixN, sm_mixC, sm_isi, sm_isi2, sm_item0, sm_item1, sm_iset0, sm_iset1, wipe_n, wipe_c, List.set_cons_zero, List.set_cons_succ, List.getElem?_cons_zero, List.getElem?_cons_succ, List.length_cons, List.length_nil, Nat.zero_le, Bool.false_eq_true, if_true, if_false, Bool.not_true, Bool.not_false, Bool.not_not]
  refine ⟨fun h0 => ?_, fun h0 => ?_⟩
  · refine W.whl (fun m env st => ∃ x' t' : Int, env = [.sh (.int x'), .sh (.int y), .sh (.int t')] ∧ st = none ∧ 0 < x' ∧ x' ≤ x ∧ Unit1 t' ∧ m = x'.toNat) x.toNat ⟨x, t, rfl, rfl, by omega, Int.le_refl _, ht, rfl⟩ ?_
    rintro m env st ⟨x', t', rfl, rfl, hx1, hx2, ht', rfl⟩
    simp only [e_var, e_rd, e_sr, e_cst, e_op1, e_op2, e_op3, e_chain, e_band, e_bor, e_ife, e_anil, e_acons, e_lst, e_tup, e_bi, e_call, e_calls, e_sget, ls_l, gV_sh, gR_sh, gR_br, gR_ow, gS_sh, gS_br, gO_ow, gF_ow, gF_sh, sm_some, w_asg1, w_asg, w_asgO, w_par, w_ret, w_drop, w_aug, w_mut, w_seti, w_augi, w_pop, w_frz, w_sset, w_ife, w_skip, w_brk, w_cont, w_seq, kq_ret, kq_bk, kq_ct, kl_bk, kl_ret, br_b, decide_eq_true_eq, decide_eq_false_iff_not, Bool.not_eq_true', Bool.not_eq_false', reduceCtorEq, true_implies, false_implies, forall_const, not_true_eq_false, not_false_eq_true, and_true, true_and, implies_true, sm_add, sm_addI, sm_addL, sm_addT, sm_cat, sm_sub, sm_mul, sm_div, sm_mod, sm_pow, sm_neg, sm_lt, sm_le, sm_gt, sm_ge, sm_eqI, sm_neI, sm_eqB, sm_neB, sm_isN, sm_isNotN, sm_truI, sm_truB, sm_truN, sm_truL, sm_truT, sm_not, sm_ixL, sm_ixT, sm_at0, sm_at1, sm_at2, sm_lenL, sm_lenT, sm_abs, sm_int, sm_intB, sm_max2, sm_min2, sm_listL, sm_listT, sm_tupL, sm_tupT, sm_seqL, sm_seqT, sm_lsL, sm_rng1, sm_rng2, sm_rng3, sm_app, sm_rep1, sm_set1, sm_setN, sm_setC, sm_mixN, sm_mixC, sm_isi, sm_isi2, sm_item0, sm_item1, sm_iset0, sm_iset1, wipe_n, wipe_c, List.set_cons_zero, List.set_cons_succ, List.getElem?_cons_zero, List.getElem?_cons_succ, List.length_cons, List.length_nil, Nat.zero_le, Bool.false_eq_true, if_true, if_false, Bool.not_true, Bool.not_false, Bool.not_not]
    refine ⟨by decide, fun h1 => ⟨by decide, ?_⟩, fun h1 => ?_⟩
    · rw [kq_nx]
      simp only [e_var, e_rd, e_sr, e_cst, e_op1, e_op2, e_op3, e_chain, e_band, e_bor, e_ife, e_anil, e_acons, e_lst, e_tup, e_bi, e_call, e_calls, e_sget, ls_l, gV_sh, gR_sh, gR_br, gR_ow, gS_sh, gS_br, gO_ow, gF_ow, gF_sh, sm_some, w_asg1, w_asg, w_asgO, w_par, w_ret, w_drop, w_aug, w_mut, w_seti, w_augi, w_pop, w_frz, w_sset, w_ife, w_skip, w_brk, w_cont, w_seq, kq_ret, kq_bk, kq_ct, kl_bk, kl_ret, br_b, decide_eq_true_eq, decide_eq_false_iff_not, Bool.not_eq_true', Bool.not_eq_false', reduceCtorEq, true_implies, false_implies, forall_const, not_true_eq_false, not_false_eq_true, and_true, true_and, implies_true, sm_add, sm_addI, sm_addL, sm_addT, sm_cat, sm_sub, sm_mul, sm_div, sm_mod, sm_pow, sm_neg, sm_lt, sm_le, sm_gt, sm_ge, sm_eqI, sm_neI, sm_eqB, sm_neB, sm_isN, sm_isNotN, sm_truI, sm_truB, sm_truN, sm_truL, sm_truT, sm_not, sm_ixL, sm_ixT, sm_at0, sm_at1, sm_at2, sm_lenL, sm_lenT, sm_abs, sm_int, sm_intB, sm_max2, sm_min2, sm_listL, sm_listT, sm_tupL, sm_tupT, sm_seqL, sm_seqT, sm_lsL, sm_rng1, sm_rng2, sm_rng3, sm_app, sm_rep1, sm_set1, sm_setN, sm_setC, sm_mixN, sm_mixC, sm_isi, sm_isi2, sm_item0, sm_item1, sm_iset0, sm_iset1, wipe_n, wipe_c, List.set_cons_zero, List.set_cons_succ, List.getElem?_cons_zero, List.getElem?_cons_succ, List.length_cons, List.length_nil, Nat.zero_le, Bool.false_eq_true, if_true, if_false, Bool.not_true, Bool.not_false, Bool.not_not, sm_in2]
      exact ⟨by decide, by omega, fun _ => ⟨_, by omega, _, _, rfl, rfl, by omega, by omega, ht'.neg, rfl⟩, fun _ => ⟨_, by omega, _, _, rfl, rfl, by omega, by omega, ht', rfl⟩⟩
    · rw [kq_nx]
      simp only [e_var, e_rd, e_sr, e_cst, e_op1, e_op2, e_op3, e_chain, e_band, e_bor, e_ife, e_anil, e_acons, e_lst, e_tup, e_bi, e_call, e_calls, e_sget, ls_l, gV_sh, gR_sh, gR_br, gR_ow, gS_sh, gS_br, gO_ow, gF_ow, gF_sh, sm_some, w_asg1, w_asg, w_asgO, w_par, w_ret, w_drop, w_aug, w_mut, w_seti, w_augi, w_pop, w_frz, w_sset, w_ife, w_skip, w_brk, w_cont, w_seq, kq_ret, kq_bk, kq_ct, kl_bk, kl_ret, br_b, decide_eq_true_eq, decide_eq_false_iff_not, Bool.not_eq_true', Bool.not_eq_false', reduceCtorEq, true_implies, false_implies, forall_const, not_true_eq_false, not_false_eq_true, and_true, true_and, implies_true, sm_add, sm_addI, sm_addL, sm_addT, sm_cat, sm_sub, sm_mul, sm_div, sm_mod, sm_pow, sm_neg, sm_lt, sm_le, sm_gt, sm_ge, sm_eqI, sm_neI, sm_eqB, sm_neB, sm_isN, sm_isNotN, sm_truI, sm_truB, sm_truN, sm_truL, sm_truT, sm_not, sm_ixL, sm_ixT, sm_at0, sm_at1, sm_at2, sm_lenL, sm_lenT, sm_abs, sm_int, sm_intB, sm_max2, sm_min2, sm_listL, sm_listT, sm_tupL, sm_tupT, sm_seqL, sm_seqT, sm_lsL, sm_rng1, sm_rng2, sm_rng3, sm_app, sm_rep1, sm_set1, sm_setN, sm_setC, sm_mixN, sm_mixC, sm_isi, sm_isi2, sm_item0, sm_item1, sm_iset0, sm_iset1, wipe_n, wipe_c, List.set_cons_zero, List.set_cons_succ, List.getElem?_cons_zero, List.getElem?_cons_succ, List.length_cons, List.length_nil, Nat.zero_le, Bool.false_eq_true, if_true, if_false, Bool.not_true, Bool.not_false, Bool.not_not]
      rw [kq_nx]
      refine W.cut (P := fun o => ∃ t2 : Int, o = .nx [.sh (.int y), .sh (.int x'), .sh (.int t2)] none ∧ Unit1 t2) ?_ ?_
      · simp only [e_var, e_rd, e_sr, e_cst, e_op1, e_op2, e_op3, e_chain, e_band, e_bor, e_ife, e_anil, e_acons, e_lst, e_tup, e_bi, e_call, e_calls, e_sget, ls_l, gV_sh, gR_sh, gR_br, gR_ow, gS_sh, gS_br, gO_ow, gF_ow, gF_sh, sm_some, w_asg1, w_asg, w_asgO, w_par, w_ret, w_drop, w_aug, w_mut, w_seti, w_augi, w_pop, w_frz, w_sset, w_ife, w_skip, w_brk, w_cont, w_seq, kq_ret, kq_bk, kq_ct, kl_bk, kl_ret, br_b, decide_eq_true_eq, decide_eq_false_iff_not, Bool.not_eq_true', Bool.not_eq_false', reduceCtorEq, true_implies, false_implies, forall_const, not_true_eq_false, not_false_eq_true, and_true, true_and, implies_true, sm_add, sm_addI, sm_addL, sm_addT, sm_cat, sm_sub, sm_mul, sm_div, sm_mod, sm_pow, sm_neg, sm_lt, sm_le, sm_gt, sm_ge, sm_eqI, sm_neI, sm_eqB, sm_neB, sm_isN, sm_isNotN, sm_truI, sm_truB, sm_truN, sm_truL, sm_truT, sm_not, sm_ixL, sm_ixT, sm_at0, sm_at1, sm_at2, sm_lenL, sm_lenT, sm_abs, sm_int, sm_intB, sm_max2, sm_min2, sm_listL, sm_listT, sm_tupL, sm_tupT, sm_seqL, sm_seqT, sm_lsL, sm_rng1, sm_rng2, sm_rng3, sm_app, sm_rep1, sm_set1, sm_setN, sm_setC, sm_mixN, sm_mixC, sm_isi, sm_isi2, sm_item0, sm_item1, sm_iset0, sm_iset1, wipe_n, wipe_c, List.set_cons_zero, List.set_cons_succ, List.getElem?_cons_zero, List.getElem?_cons_succ, List.length_cons, List.length_nil, Nat.zero_le, Bool.false_eq_true, if_true, if_false, Bool.not_true, Bool.not_false, Bool.not_not]
        exact ⟨by decide, fun _ => ⟨by decide, fun _ => ⟨_, rfl, ht'.neg⟩, fun _ => ⟨_, rfl, ht'⟩⟩, fun _ => ⟨_, rfl, ht'⟩⟩
      · rintro o ⟨t2, rfl, ht2⟩
        rw [kq_nx]
        simp only [e_var, e_rd, e_sr, e_cst, e_op1, e_op2, e_op3, e_chain, e_band, e_bor, e_ife, e_anil, e_acons, e_lst, e_tup, e_bi, e_call, e_calls, e_sget, ls_l, gV_sh, gR_sh, gR_br, gR_ow, gS_sh, gS_br, gO_ow, gF_ow, gF_sh, sm_some, w_asg1, w_asg, w_asgO, w_par, w_ret, w_drop, w_aug, w_mut, w_seti, w_augi, w_pop, w_frz, w_sset, w_ife, w_skip, w_brk, w_cont, w_seq, kq_ret, kq_bk, kq_ct, kl_bk, kl_ret, br_b, decide_eq_true_eq, decide_eq_false_iff_not, Bool.not_eq_true', Bool.not_eq_false', reduceCtorEq, true_implies, false_implies, forall_const, not_true_eq_false, not_false_eq_true, and_true, true_and, implies_true, sm_add, sm_addI, sm_addL, sm_addT, sm_cat, sm_sub, sm_mul, sm_div, sm_mod, sm_pow, sm_neg, sm_lt, sm_le, sm_gt, sm_ge, sm_eqI, sm_neI, sm_eqB, sm_neB, sm_isN, sm_isNotN, sm_truI, sm_truB, sm_truN, sm_truL, sm_truT, sm_not, sm_ixL, sm_ixT, sm_at0, sm_at1, sm_at2, sm_lenL, sm_lenT, sm_abs, sm_int, sm_intB, sm_max2, sm_min2, sm_listL, sm_listT, sm_tupL, sm_tupT, sm_seqL, sm_seqT, sm_lsL, sm_rng1, sm_rng2, sm_rng3, sm_app, sm_rep1, sm_set1, sm_setN, sm_setC, sm_mixN, sm_mixC, sm_isi, sm_isi2, sm_item0, sm_item1, sm_iset0, sm_iset1, wipe_n, wipe_c, List.set_cons_zero, List.set_cons_succ, List.getElem?_cons_zero, List.getElem?_cons_succ, List.length_cons, List.length_nil, Nat.zero_le, Bool.false_eq_true, if_true, if_false, Bool.not_true, Bool.not_false, Bool.not_not]
        exact ⟨hx1, x'.toNat, by omega, _, _, _, rfl, rfl, Int.emod_nonneg _ (by omega), Int.emod_lt_of_pos _ hx1, ht2, rfl⟩
  · rw [kq_nx]
    simp only [e_var, e_rd, e_sr, e_cst, e_op1, e_op2, e_op3, e_chain, e_band, e_bor, e_ife, e_anil, e_acons, e_lst, e_tup, e_bi, e_call, e_calls, e_sget, ls_l, gV_sh, gR_sh, gR_br, gR_ow, gS_sh, gS_br, gO_ow, gF_ow, gF_sh, sm_some, w_asg1, w_asg, w_asgO, w_par, w_ret, w_drop, w_aug, w_mut, w_seti, w_augi, w_pop, w_frz, w_sset, w_ife, w_skip, w_brk, w_cont, w_seq, kq_ret, kq_bk, kq_ct, kl_bk, kl_ret, br_b, decide_eq_true_eq, decide_eq_false_iff_not, Bool.not_eq_true', Bool.not_eq_false', reduceCtorEq, true_implies, false_implies, forall_const, not_true_eq_false, not_false_eq_true, and_true, true_and, implies_true, sm_add, sm_addI, sm_addL, sm_addT, sm_cat, sm_sub, sm_mul, sm_div, sm_mod, sm_pow, sm_neg, sm_lt, sm_le, sm_gt, sm_ge, sm_eqI, sm_neI, sm_eqB, sm_neB, sm_isN, sm_isNotN, sm_truI, sm_truB, sm_truN, sm_truL, sm_truT, sm_not, sm_ixL, sm_ixT, sm_at0, sm_at1, sm_at2, sm_lenL, sm_lenT, sm_abs, sm_int, sm_intB, sm_max2, sm_min2, sm_listL, sm_listT, sm_tupL, sm_tupT, sm_seqL, sm_seqT, sm_lsL, sm_rng1, sm_rng2, sm_rng3, sm_app, sm_rep1, sm_set1, sm_setN, sm_setC, sm_mixN, sm_mixC, sm_isi, sm_isi2, sm_item0, sm_item1, sm_iset0, sm_iset1, wipe_n, wipe_c, List.set_cons_zero, List.set_cons_succ, List.getElem?_cons_zero, List.getElem?_cons_succ, List.length_cons, List.length_nil, Nat.zero_le, Bool.false_eq_true, if_true, if_false, Bool.not_true, Bool.not_false, Bool.not_not]
    refine ⟨fun _ => ⟨t, rfl, .inr ht⟩, fun _ => ⟨0, rfl, .inl rfl⟩⟩
noncomputable def fs_symbol : List D → Option D := FV 2 3 z_symbol
noncomputable def symV (a n : Int) : Int := match fs_symbol [.int a, .int n] with | some (.int v) => v | _ => 0
theorem sm_symbol {a n : Int} {Q : D → Prop} (hn : 0 < n) (q : (symV a n = 0 ∨ symV a n = 1 ∨ symV a n = -1) → Q (.int (symV a n))) : Sm (fs_symbol [.int a, .int n]) Q := by
  have h : Sm (fs_symbol [.int a, .int n]) (fun r => ∃ v : Int, r = .int v ∧ (v = 0 ∨ v = 1 ∨ v = -1)) := FV.sm rfl ((w_symbol hn).mono fun o ⟨v, e, hv⟩ => ⟨_, _, e, v, rfl, hv⟩)
  obtain ⟨r, e, v, rfl, hv⟩ := h
  have : symV a n = v := by unfold symV; rw [e]
  rw [← this] at hv e
  exact ⟨_, e, q hv⟩
end ZC
namespace ZM
/-- whole numbers multiplied over a book -/
def prI (f : Nat → Nat → Int) : List (Nat × Nat) → Int
  | [] => 1
  | (p, v) :: r => f p v * prI f r
theorem prI_perm {f : Nat → Nat → Int} {l m : List (Nat × Nat)} (h : List.Perm l m) : prI f l = prI f m := by
  induction h with
  | nil => rfl
  | cons x _ ih => obtain ⟨p, v⟩ := x; show _ * _ = _ * _; rw [ih]
  | swap x y l => obtain ⟨p, v⟩ := x; obtain ⟨q, w⟩ := y; show _ * (_ * _) = _ * (_ * _); rw [Int.mul_left_comm]
  | trans _ _ h1 h2 => rw [h1, h2]
theorem prI_app {f : Nat → Nat → Int} : ∀ {l m : List (Nat × Nat)}, prI f (l ++ m) = prI f l * prI f m
  | [], m => by show prI f m = 1 * prI f m; rw [Int.one_mul]
  | (p, v) :: l, m => by
    show f p v * prI f (l ++ m) = f p v * prI f l * prI f m
    rw [prI_app, Int.mul_assoc]
theorem prI_mul {f : Nat → Nat → Int} {n m : Nat} (h1 : 1 ≤ n) (h2 : 1 ≤ m) (hc : Nat.Coprime n m) : prI f (book (n * m)) = prI f (book n) * prI f (book m) := by
  rw [prI_perm (book_mul _ n m (Nat.le_refl _) h1 h2 hc), prI_app]
end ZM
namespace ZC
open PySem PySem.Spec PyProof.Rows L2 Z ZM
noncomputable def crF (a : Int) (p k : Nat) : Int := if 2 < p then 1 + symV a p else if k = 2 then (if a % 4 = 1 then 2 else 0) else if 2 < k then (if a % 8 = 1 then 4 else 0) else 1
theorem crF_sz {a : Int} {p k : Nat} (h : symV a p = 0 ∨ symV a p = 1 ∨ symV a p = -1) : Sz 3 (crF a p k) := by
  unfold crF Sz
  rcases h with h | h | h <;> rw [h] <;> (repeat' split) <;> decide
theorem w_count_roots {a : Int} {n : Nat} (h1 : 1 ≤ n) (hn : n < 1152921504606846976) : W (z_count_roots fs_prime_powers fs_symbol) [.sh (.int a), .sh (.int n), .no, .no, .no] none (fun o => o = .ret (.int (prI (crF a) (book n))) none) := by
  have hlen : (book n).length ≤ 60 := book_len_log (by omega)
  unfold z_count_roots
  simp only [e_var, e_rd, e_sr, e_cst, e_op1, e_op2, e_op3, e_chain, e_band, e_bor, e_ife, e_anil, e_acons, e_lst, e_tup, e_bi, e_call, e_calls, e_sget, ls_l, gV_sh, gR_sh, gR_br, gR_ow, gS_sh, gS_br, gO_ow, gF_ow, gF_sh, sm_some, w_asg1, w_asg, w_asgO, w_par, w_ret, w_drop, w_aug, w_mut, w_seti, w_augi, w_pop, w_frz, w_sset, w_ife, w_skip, w_brk, w_cont, w_seq, kq_ret, kq_bk, kq_ct, kl_bk, kl_ret, br_b, decide_eq_true_eq, decide_eq_false_iff_not, Bool.not_eq_true', Bool.not_eq_false', reduceCtorEq, true_implies, false_implies, forall_const, not_true_eq_false, not_false_eq_true, and_true, true_and, implies_true, sm_add, sm_addI, sm_addL, sm_addT, sm_cat, sm_sub, sm_mul, sm_div, sm_mod, sm_pow, sm_neg, sm_lt, sm_le, sm_gt, sm_ge, sm_eqI, sm_neI, sm_eqB, sm_neB, sm_isN, sm_isNotN, sm_truI, sm_truB, sm_truN, sm_truL, sm_truT, sm_not, sm_ixL, sm_ixT, sm_at0, sm_at1, sm_at2, sm_lenL, sm_lenT, sm_abs, sm_int, sm_intB, sm_max2, sm_min2, sm_listL, sm_listT, sm_tupL, sm_tupT, sm_seqL, sm_seqT, sm_lsL, sm_rng1, sm_rng2, sm_rng3, sm_app, sm_rep1, sm_set1, sm_setN, sm_setC, sm_mixN, sm_mixC, sm_isi, sm_isi2, sm_item0, sm_item1, sm_iset0, sm_iset1, wipe_n, wipe_c, List.set_cons_zero, List.set_cons_succ, List.getElem?_cons_zero, List.getElem?_cons_succ, List.length_cons, List.length_nil, Nat.zero_le, Bool.false_eq_true, if_true, if_false, Bool.not_true, Bool.not_false, Bool.not_not, kq_nx]
  refine W.forL (fun ts env st => ∃ (l : List (Nat × Nat)) (A : Int) (j : Nat) (s3 s4 : Sl), env = [.sh (.int a), .sh (.int n), .sh (.int A), s3, s4] ∧ st = none ∧ ts = bookD l ∧ (∀ q ∈ l, Pr q.1 ∧ 1 ≤ q.2) ∧ j + l.length ≤ 60 ∧ Sz (3 * j + 1) A ∧ A * prI (crF a) l = prI (crF a) (book n)) (bookD (book n)) ?_ ⟨book n, 1, 0, _, _, rfl, rfl, rfl, book_pr h1, by omega, by unfold Sz; decide, Int.one_mul _⟩ ?_ ?_
  · simp only [e_var, e_rd, e_sr, e_cst, e_op1, e_op2, e_op3, e_chain, e_band, e_bor, e_ife, e_anil, e_acons, e_lst, e_tup, e_bi, e_call, e_calls, e_sget, ls_l, gV_sh, gR_sh, gR_br, gR_ow, gS_sh, gS_br, gO_ow, gF_ow, gF_sh, sm_some, w_asg1, w_asg, w_asgO, w_par, w_ret, w_drop, w_aug, w_mut, w_seti, w_augi, w_pop, w_frz, w_sset, w_ife, w_skip, w_brk, w_cont, w_seq, kq_ret, kq_bk, kq_ct, kl_bk, kl_ret, br_b, decide_eq_true_eq, decide_eq_false_iff_not, Bool.not_eq_true', Bool.not_eq_false', reduceCtorEq, true_implies, false_implies, forall_const, not_true_eq_false, not_false_eq_true, and_true, true_and, implies_true, sm_add, sm_addI, sm_addL, sm_addT, sm_cat, sm_sub, sm_mul, sm_div, sm_mod, sm_pow, sm_neg, sm_lt, sm_le, sm_gt, sm_ge, sm_eqI, sm_neI, sm_eqB, sm_neB, sm_isN, sm_isNotN, sm_truI, sm_truB, sm_truN, sm_truL, sm_truT, sm_not, sm_ixL, sm_ixT, sm_at0, sm_at1, sm_at2, sm_lenL, sm_lenT, sm_abs, sm_int, sm_intB, sm_max2, sm_min2, sm_listL, sm_listT, sm_tupL, sm_tupT, sm_seqL, sm_seqT, sm_lsL, sm_rng1, sm_rng2, sm_rng3, sm_app, sm_rep1, sm_set1, sm_setN, sm_setC, sm_mixN, sm_mixC, sm_isi, sm_isi2, sm_item0, sm_item1, sm_iset0, sm_iset1, wipe_n, wipe_c, List.set_cons_zero, List.set_cons_succ, List.getElem?_cons_zero, List.getElem?_cons_succ, List.length_cons, List.length_nil, Nat.zero_le, Bool.false_eq_true, if_true, if_false, Bool.not_true, Bool.not_false, Bool.not_not]
    refine sm_prime_powers rfl h1 hn ?_
    (try simp only [e_var, e_rd, e_sr, e_cst, e_op1, e_op2, e_op3, e_chain, e_band, e_bor, e_ife, e_anil, e_acons, e_lst, e_tup, e_bi, e_call, e_calls, e_sget, ls_l, gV_sh, gR_sh, gR_br, gR_ow, gS_sh, gS_br, gO_ow, gF_ow, gF_sh, sm_some, w_asg1, w_asg, w_asgO, w_par, w_ret, w_drop, w_aug, w_mut, w_seti, w_augi, w_pop, w_frz, w_sset, w_ife, w_skip, w_brk, w_cont, w_seq, kq_ret, kq_bk, kq_ct, kl_bk, kl_ret, br_b, decide_eq_true_eq, decide_eq_false_iff_not, Bool.not_eq_true', Bool.not_eq_false', reduceCtorEq, true_implies, false_implies, forall_const, not_true_eq_false, not_false_eq_true, and_true, true_and, implies_true, sm_add, sm_addI, sm_addL, sm_addT, sm_cat, sm_sub, sm_mul, sm_div, sm_mod, sm_pow, sm_neg, sm_lt, sm_le, sm_gt, sm_ge, sm_eqI, sm_neI, sm_eqB, sm_neB, sm_isN, sm_isNotN, sm_truI, sm_truB, sm_truN, sm_truL, sm_truT, sm_not, sm_ixL, sm_ixT, sm_at0, sm_at1, sm_at2, sm_lenL, sm_lenT, sm_abs, sm_int, sm_intB, sm_max2, sm_min2, sm_listL, sm_listT, sm_tupL, sm_tupT, sm_seqL, sm_seqT, sm_lsL, sm_rng1, sm_rng2, sm_rng3, sm_app, sm_rep1, sm_set1, sm_setN, sm_setC, sm_mixN, sm_mixC, sm_isi, sm_isi2, sm_item0, sm_item1, sm_iset0, sm_iset1, wipe_n, wipe_c, List.set_cons_zero, List.set_cons_succ, List.getElem?_cons_zero, List.getElem?_cons_succ, List.length_cons, List.length_nil, Nat.zero_le, Bool.false_eq_true, if_true, if_false, Bool.not_true, Bool.not_false, Bool.not_not])
  · rintro env st ⟨l, A, j, s3, s4, rfl, rfl, hts, _, _, _, hA⟩
    simp only [e_var, e_rd, e_sr, e_cst, e_op1, e_op2, e_op3, e_chain, e_band, e_bor, e_ife, e_anil, e_acons, e_lst, e_tup, e_bi, e_call, e_calls, e_sget, ls_l, gV_sh, gR_sh, gR_br, gR_ow, gS_sh, gS_br, gO_ow, gF_ow, gF_sh, sm_some, w_asg1, w_asg, w_asgO, w_par, w_ret, w_drop, w_aug, w_mut, w_seti, w_augi, w_pop, w_frz, w_sset, w_ife, w_skip, w_brk, w_cont, w_seq, kq_ret, kq_bk, kq_ct, kl_bk, kl_ret, br_b, decide_eq_true_eq, decide_eq_false_iff_not, Bool.not_eq_true', Bool.not_eq_false', reduceCtorEq, true_implies, false_implies, forall_const, not_true_eq_false, not_false_eq_true, and_true, true_and, implies_true, sm_add, sm_addI, sm_addL, sm_addT, sm_cat, sm_sub, sm_mul, sm_div, sm_mod, sm_pow, sm_neg, sm_lt, sm_le, sm_gt, sm_ge, sm_eqI, sm_neI, sm_eqB, sm_neB, sm_isN, sm_isNotN, sm_truI, sm_truB, sm_truN, sm_truL, sm_truT, sm_not, sm_ixL, sm_ixT, sm_at0, sm_at1, sm_at2, sm_lenL, sm_lenT, sm_abs, sm_int, sm_intB, sm_max2, sm_min2, sm_listL, sm_listT, sm_tupL, sm_tupT, sm_seqL, sm_seqT, sm_lsL, sm_rng1, sm_rng2, sm_rng3, sm_app, sm_rep1, sm_set1, sm_setN, sm_setC, sm_mixN, sm_mixC, sm_isi, sm_isi2, sm_item0, sm_item1, sm_iset0, sm_iset1, wipe_n, wipe_c, List.set_cons_zero, List.set_cons_succ, List.getElem?_cons_zero, List.getElem?_cons_succ, List.length_cons, List.length_nil, Nat.zero_le, Bool.false_eq_true, if_true, if_false, Bool.not_true, Bool.not_false, Bool.not_not, kq_nx]
    have hl : l = [] := by
      cases l with
      | nil => rfl
      | cons q r => obtain ⟨p, v⟩ := q; cases hts
    subst hl
    rw [← hA]
    show Out.ret _ _ = Out.ret (.int (A * 1)) _
    rw [Int.mul_one]
  · rintro t ts env st ⟨l, A, j, s3, s4, rfl, rfl, hts, hpr, hj, hsz, hA⟩
    cases l with
    | nil => cases hts
    | cons q r =>
      obtain ⟨p, v⟩ := q
      cases hts
      obtain ⟨hp, hv⟩ := hpr (p, v) (.head _)
      have hp1 := hp.1
      have hlen2 : ((p, v) :: r).length = r.length + 1 := rfl
      have fin : ∀ B : Int, B = A * crF a p v → Sz (3 * (j + 1) + 1) B → ∃ (l : List (Nat × Nat)) (A : Int) (j : Nat) (s3 s4 : Sl), ([.sh (.int a), .sh (.int n), .sh (.int B), .sh (.int p), .sh (.int v)] : Z.Env) = [.sh (.int a), .sh (.int n), .sh (.int A), s3, s4] ∧ (none : SD) = none ∧ bookD r = bookD l ∧ (∀ q ∈ l, Pr q.1 ∧ 1 ≤ q.2) ∧ j + l.length ≤ 60 ∧ Sz (3 * j + 1) A ∧ A * prI (crF a) l = prI (crF a) (book n) := by
        intro B hB hs
        refine ⟨r, B, j + 1, _, _, rfl, rfl, rfl, fun q hq => hpr q (.tail _ hq), by omega, hs, ?_⟩
        rw [← hA, hB]
        show _ = A * (crF a p v * prI (crF a) r)
        rw [Int.mul_assoc]
      have two : Sz 3 2 := by unfold Sz; decide
      have four : Sz 3 4 := by unfold Sz; decide
      have zero : Sz 3 0 := by unfold Sz; decide
      have sz : ∀ c : Int, Sz 3 c → Sz (3 * (j + 1) + 1) (A * c) := fun c hc => (hsz.mul hc).mono (by omega)
      have mk : ∀ c : Int, Sz 3 c → mulOk A c = true := fun c hc => mul_ok (hsz.mono (show 3 * j + 1 ≤ 200 by omega)) hc
      simp only [e_var, e_rd, e_sr, e_cst, e_op1, e_op2, e_op3, e_chain, e_band, e_bor, e_ife, e_anil, e_acons, e_lst, e_tup, e_bi, e_call, e_calls, e_sget, ls_l, gV_sh, gR_sh, gR_br, gR_ow, gS_sh, gS_br, gO_ow, gF_ow, gF_sh, sm_some, w_asg1, w_asg, w_asgO, w_par, w_ret, w_drop, w_aug, w_mut, w_seti, w_augi, w_pop, w_frz, w_sset, w_ife, w_skip, w_brk, w_cont, w_seq, kq_ret, kq_bk, kq_ct, kl_bk, kl_ret, br_b, decide_eq_true_eq, decide_eq_false_iff_not, Bool.not_eq_true', Bool.not_eq_false', reduceCtorEq, true_implies, false_implies, forall_const, not_true_eq_false, not_false_eq_true, and_true, true_and, implies_true, sm_add, sm_addI, sm_addL, sm_addT, sm_cat, sm_sub, sm_mul, sm_div, sm_mod, sm_pow, sm_neg, sm_lt, sm_le, sm_gt, sm_ge, sm_eqI, sm_neI, sm_eqB, sm_neB, sm_isN, sm_isNotN, sm_truI, sm_truB, sm_truN, sm_truL, sm_truT, sm_not, sm_ixL, sm_ixT, sm_at0, sm_at1, sm_at2, sm_lenL, sm_lenT, sm_abs, sm_int, sm_intB, sm_max2, sm_min2, sm_listL, sm_listT, sm_tupL, sm_tupT, sm_seqL, sm_seqT, sm_lsL, sm_rng1, sm_rng2, sm_rng3, sm_app, sm_rep1, sm_set1, sm_setN, sm_setC, sm_mixN, sm_mixC, sm_isi, sm_isi2, sm_item0, sm_item1, sm_iset0, sm_iset1, wipe_n, wipe_c, List.set_cons_zero, List.set_cons_succ, List.getElem?_cons_zero, List.getElem?_cons_succ, List.length_cons, List.length_nil, Nat.zero_le, Bool.false_eq_true, if_true, if_false, Bool.not_true, Bool.not_false, Bool.not_not]
      refine ⟨fun c1 => ?_, fun c1 => ⟨fun c2 => ⟨by decide, fun c3 => ⟨mk _ two, ?_⟩, fun c3 => ⟨mk _ zero, ?_⟩⟩, fun c2 => ⟨fun c3 => ⟨by decide, fun c4 => ⟨mk _ four, ?_⟩, fun c4 => ⟨mk _ zero, ?_⟩⟩, fun c3 => ?_⟩⟩⟩
      · refine sm_symbol (by omega) fun hu => ?_
        have e : crF a p v = 1 + symV a p := by unfold crF; rw [if_pos (by omega)]
        have hs := crF_sz (k := v) hu
        rw [e] at hs
        simp only [e_var, e_rd, e_sr, e_cst, e_op1, e_op2, e_op3, e_chain, e_band, e_bor, e_ife, e_anil, e_acons, e_lst, e_tup, e_bi, e_call, e_calls, e_sget, ls_l, gV_sh, gR_sh, gR_br, gR_ow, gS_sh, gS_br, gO_ow, gF_ow, gF_sh, sm_some, w_asg1, w_asg, w_asgO, w_par, w_ret, w_drop, w_aug, w_mut, w_seti, w_augi, w_pop, w_frz, w_sset, w_ife, w_skip, w_brk, w_cont, w_seq, kq_ret, kq_bk, kq_ct, kl_bk, kl_ret, br_b, decide_eq_true_eq, decide_eq_false_iff_not, Bool.not_eq_true', Bool.not_eq_false', reduceCtorEq, true_implies, false_implies, forall_const, not_true_eq_false, not_false_eq_true, and_true, true_and, implies_true, sm_add, sm_addI, sm_addL, sm_addT, sm_cat, sm_sub, sm_mul, sm_div, sm_mod, sm_pow, sm_neg, sm_lt, sm_le, sm_gt, sm_ge, sm_eqI, sm_neI, sm_eqB, sm_neB, sm_isN, sm_isNotN, sm_truI, sm_truB, sm_truN, sm_truL, sm_truT, sm_not, sm_ixL, sm_ixT, sm_at0, sm_at1, sm_at2, sm_lenL, sm_lenT, sm_abs, sm_int, sm_intB, sm_max2, sm_min2, sm_listL, sm_listT, sm_tupL, sm_tupT, sm_seqL, sm_seqT, sm_lsL, sm_rng1, sm_rng2, sm_rng3, sm_app, sm_rep1, sm_set1, sm_setN, sm_setC, sm_mixN, sm_mixC, sm_isi, sm_isi2, sm_item0, sm_item1, sm_iset0, sm_iset1, wipe_n, wipe_c, List.set_cons_zero, List.set_cons_succ, List.getElem?_cons_zero, List.getElem?_cons_succ, List.length_cons, List.length_nil, Nat.zero_le, Bool.false_eq_true, if_true, if_false, Bool.not_true, Bool.not_false, Bool.not_not]
        exact ⟨mk _ hs, fin _ (by rw [e]) (sz _ hs)⟩
      · exact fin _ (by unfold crF; rw [if_neg (by omega), if_pos (by omega), if_pos c3]) (sz _ two)
      · exact fin _ (by unfold crF; rw [if_neg (by omega), if_pos (by omega), if_neg c3]) (sz _ zero)
      · exact fin _ (by unfold crF; rw [if_neg (by omega), if_neg (by omega), if_pos (by omega), if_pos c4]) (sz _ four)
      · exact fin _ (by unfold crF; rw [if_neg (by omega), if_neg (by omega), if_pos (by omega), if_neg c4]) (sz _ zero)
      · exact fin _ (by unfold crF; rw [if_neg (by omega), if_neg (by omega), if_neg (by omega), Int.mul_one]) (hsz.mono (by omega))
noncomputable def fs_count_roots : List D → Option D := FV 2 5 (z_count_roots fs_prime_powers fs_symbol)
theorem sm_count_roots {a i : Int} {n : Nat} {Q : D → Prop} (e : i = n) (h1 : 1 ≤ n) (hn : n < 1152921504606846976) (q : Q (.int (prI (crF a) (book n)))) : Sm (fs_count_roots [.int a, .int i]) Q := by
  subst e; exact FV.sm1 rfl (w_count_roots h1 hn) q
end ZC
namespace ZC
open PySem PySem.Spec PyProof.Rows L2 Z ZM
theorem sm_shl {i j : Int} {Q : D → Prop} : Sm (dShl (.int i) (.int j)) Q ↔ (0 ≤ j ∧ j ≤ 1000000 ∧ i.natAbs < 2 ^ 64) ∧ Q (.int (i * 2 ^ j.toNat)) := sm_if
def coF (k p m : Nat) : Nat := if 2 < p then Nat.gcd k ((p - 1) * p ^ (m - 1)) else if 1 < m ∧ k % 2 = 0 then (if m = 2 then 2 else 2 * Nat.gcd k (2 ^ (m - 2))) else 1
theorem coF_le {k p m : Nat} (hk : 1 ≤ k) : coF k p m ≤ 2 * k := by
  unfold coF
  have h1 := Nat.gcd_le_left ((p - 1) * p ^ (m - 1)) hk
  have h2 := Nat.gcd_le_left (2 ^ (m - 2)) hk
  repeat' split
  all_goals omega
theorem w_count_ones {k n : Nat} (hk : 1 ≤ k) (hk' : k < 1000000) (h1 : 1 ≤ n) (hn : n < 1152921504606846976) : W (z_count_ones fs_prime_powers fs_power) [.sh (.int k), .sh (.int n), .no, .no, .no] none (fun o => o = .ret (.int (prL (coF k) (book n) : Nat)) none) := by
  have hlen : (book n).length ≤ 60 := book_len_log (by omega)
  unfold z_count_ones
  simp only [e_var, e_rd, e_sr, e_cst, e_op1, e_op2, e_op3, e_chain, e_band, e_bor, e_ife, e_anil, e_acons, e_lst, e_tup, e_bi, e_call, e_calls, e_sget, ls_l, gV_sh, gR_sh, gR_br, gR_ow, gS_sh, gS_br, gO_ow, gF_ow, gF_sh, sm_some, w_asg1, w_asg, w_asgO, w_par, w_ret, w_drop, w_aug, w_mut, w_seti, w_augi, w_pop, w_frz, w_sset, w_ife, w_skip, w_brk, w_cont, w_seq, kq_ret, kq_bk, kq_ct, kl_bk, kl_ret, br_b, decide_eq_true_eq, decide_eq_false_iff_not, Bool.not_eq_true', Bool.not_eq_false', reduceCtorEq, true_implies, false_implies, forall_const, not_true_eq_false, not_false_eq_true, and_true, true_and, implies_true, sm_add, sm_addI, sm_addL, sm_addT, sm_cat, sm_sub, sm_mul, sm_div, sm_mod, sm_pow, sm_neg, sm_lt, sm_le, sm_gt, sm_ge, sm_eqI, sm_neI, sm_eqB, sm_neB, sm_isN, sm_isNotN, sm_truI, sm_truB, sm_truN, sm_truL, sm_truT, sm_not, sm_ixL, sm_ixT, sm_at0, sm_at1, sm_at2, sm_lenL, sm_lenT, sm_abs, sm_int, sm_intB, sm_max2, sm_min2, sm_listL, sm_listT, sm_tupL, sm_tupT, sm_seqL, sm_seqT, sm_lsL, sm_rng1, sm_rng2, sm_rng3, sm_app, sm_rep1, sm_set1, sm_setN, sm_setC, sm_mixN, sm_mixC, sm_isi, sm_isi2, sm_item0, sm_item1, sm_iset0, sm_iset1, wipe_n, wipe_c, List.set_cons_zero, List.set_cons_succ, List.getElem?_cons_zero, List.getElem?_cons_succ, List.length_cons, List.length_nil, Nat.zero_le, Bool.false_eq_true, if_true, if_false, Bool.not_true, Bool.not_false, Bool.not_not, kq_nx]
  refine W.forL (fun ts env st => ∃ (l : List (Nat × Nat)) (A j : Nat) (s3 s4 : Sl), env = [.sh (.int k), .sh (.int n), .sh (.int A), s3, s4] ∧ st = none ∧ ts = bookD l ∧ (∀ q ∈ l, Pr q.1 ∧ 1 ≤ q.2 ∧ q.1 ^ q.2 ≤ n) ∧ j + l.length ≤ 60 ∧ Sz (22 * j + 1) (A : Int) ∧ A * prL (coF k) l = prL (coF k) (book n)) (bookD (book n)) ?_ ⟨book n, 1, 0, _, _, rfl, rfl, rfl, ?_, by omega, by unfold Sz; decide, Nat.one_mul _⟩ ?_ ?_
  · simp only [e_var, e_rd, e_sr, e_cst, e_op1, e_op2, e_op3, e_chain, e_band, e_bor, e_ife, e_anil, e_acons, e_lst, e_tup, e_bi, e_call, e_calls, e_sget, ls_l, gV_sh, gR_sh, gR_br, gR_ow, gS_sh, gS_br, gO_ow, gF_ow, gF_sh, sm_some, w_asg1, w_asg, w_asgO, w_par, w_ret, w_drop, w_aug, w_mut, w_seti, w_augi, w_pop, w_frz, w_sset, w_ife, w_skip, w_brk, w_cont, w_seq, kq_ret, kq_bk, kq_ct, kl_bk, kl_ret, br_b, decide_eq_true_eq, decide_eq_false_iff_not, Bool.not_eq_true', Bool.not_eq_false', reduceCtorEq, true_implies, false_implies, forall_const, not_true_eq_false, not_false_eq_true, and_true, true_and, implies_true, sm_add, sm_addI, sm_addL, sm_addT, sm_cat, sm_sub, sm_mul, sm_div, sm_mod, sm_pow, sm_neg, sm_lt, sm_le, sm_gt, sm_ge, sm_eqI, sm_neI, sm_eqB, sm_neB, sm_isN, sm_isNotN, sm_truI, sm_truB, sm_truN, sm_truL, sm_truT, sm_not, sm_ixL, sm_ixT, sm_at0, sm_at1, sm_at2, sm_lenL, sm_lenT, sm_abs, sm_int, sm_intB, sm_max2, sm_min2, sm_listL, sm_listT, sm_tupL, sm_tupT, sm_seqL, sm_seqT, sm_lsL, sm_rng1, sm_rng2, sm_rng3, sm_app, sm_rep1, sm_set1, sm_setN, sm_setC, sm_mixN, sm_mixC, sm_isi, sm_isi2, sm_item0, sm_item1, sm_iset0, sm_iset1, wipe_n, wipe_c, List.set_cons_zero, List.set_cons_succ, List.getElem?_cons_zero, List.getElem?_cons_succ, List.length_cons, List.length_nil, Nat.zero_le, Bool.false_eq_true, if_true, if_false, Bool.not_true, Bool.not_false, Bool.not_not]
    refine sm_prime_powers rfl h1 hn ?_
    (try simp only [e_var, e_rd, e_sr, e_cst, e_op1, e_op2, e_op3, e_chain, e_band, e_bor, e_ife, e_anil, e_acons, e_lst, e_tup, e_bi, e_call, e_calls, e_sget, ls_l, gV_sh, gR_sh, gR_br, gR_ow, gS_sh, gS_br, gO_ow, gF_ow, gF_sh, sm_some, w_asg1, w_asg, w_asgO, w_par, w_ret, w_drop, w_aug, w_mut, w_seti, w_augi, w_pop, w_frz, w_sset, w_ife, w_skip, w_brk, w_cont, w_seq, kq_ret, kq_bk, kq_ct, kl_bk, kl_ret, br_b, decide_eq_true_eq, decide_eq_false_iff_not, Bool.not_eq_true', Bool.not_eq_false', reduceCtorEq, true_implies, false_implies, forall_const, not_true_eq_false, not_false_eq_true, and_true, true_and, implies_true, sm_add, sm_addI, sm_addL, sm_addT, sm_cat, sm_sub, sm_mul, sm_div, sm_mod, sm_pow, sm_neg, sm_lt, sm_le, sm_gt, sm_ge, sm_eqI, sm_neI, sm_eqB, sm_neB, sm_isN, sm_isNotN, sm_truI, sm_truB, sm_truN, sm_truL, sm_truT, sm_not, sm_ixL, sm_ixT, sm_at0, sm_at1, sm_at2, sm_lenL, sm_lenT, sm_abs, sm_int, sm_intB, sm_max2, sm_min2, sm_listL, sm_listT, sm_tupL, sm_tupT, sm_seqL, sm_seqT, sm_lsL, sm_rng1, sm_rng2, sm_rng3, sm_app, sm_rep1, sm_set1, sm_setN, sm_setC, sm_mixN, sm_mixC, sm_isi, sm_isi2, sm_item0, sm_item1, sm_iset0, sm_iset1, wipe_n, wipe_c, List.set_cons_zero, List.set_cons_succ, List.getElem?_cons_zero, List.getElem?_cons_succ, List.length_cons, List.length_nil, Nat.zero_le, Bool.false_eq_true, if_true, if_false, Bool.not_true, Bool.not_false, Bool.not_not])
  · have : ∀ n, 1 ≤ n → ∀ q ∈ book n, q.1 ^ q.2 ≤ n := by
      intro n hn
      refine book_ind (C := fun n => ∀ q ∈ book n, q.1 ^ q.2 ≤ n) (by rw [book_one (by omega)]; simp) (fun p v k hp hv hk hd hl hb ih => ?_) n hn
      rw [hb]
      intro q hq
      have hle : k ≤ p ^ v * k := Nat.le_mul_of_pos_left _ (Nat.pow_pos hp.pos)
      rcases List.mem_cons.mp hq with rfl | hq
      · exact Nat.le_mul_of_pos_right _ hk
      · exact Nat.le_trans (ih q hq) hle
    exact fun q hq => ⟨(book_pr h1 q hq).1, (book_pr h1 q hq).2, this n h1 q hq⟩
  · rintro env st ⟨l, A, j, s3, s4, rfl, rfl, hts, _, _, _, hA⟩
    simp only [e_var, e_rd, e_sr, e_cst, e_op1, e_op2, e_op3, e_chain, e_band, e_bor, e_ife, e_anil, e_acons, e_lst, e_tup, e_bi, e_call, e_calls, e_sget, ls_l, gV_sh, gR_sh, gR_br, gR_ow, gS_sh, gS_br, gO_ow, gF_ow, gF_sh, sm_some, w_asg1, w_asg, w_asgO, w_par, w_ret, w_drop, w_aug, w_mut, w_seti, w_augi, w_pop, w_frz, w_sset, w_ife, w_skip, w_brk, w_cont, w_seq, kq_ret, kq_bk, kq_ct, kl_bk, kl_ret, br_b, decide_eq_true_eq, decide_eq_false_iff_not, Bool.not_eq_true', Bool.not_eq_false', reduceCtorEq, true_implies, false_implies, forall_const, not_true_eq_false, not_false_eq_true, and_true, true_and, implies_true, sm_add, sm_addI, sm_addL, sm_addT, sm_cat, sm_sub, sm_mul, sm_div, sm_mod, sm_pow, sm_neg, sm_lt, sm_le, sm_gt, sm_ge, sm_eqI, sm_neI, sm_eqB, sm_neB, sm_isN, sm_isNotN, sm_truI, sm_truB, sm_truN, sm_truL, sm_truT, sm_not, sm_ixL, sm_ixT, sm_at0, sm_at1, sm_at2, sm_lenL, sm_lenT, sm_abs, sm_int, sm_intB, sm_max2, sm_min2, sm_listL, sm_listT, sm_tupL, sm_tupT, sm_seqL, sm_seqT, sm_lsL, sm_rng1, sm_rng2, sm_rng3, sm_app, sm_rep1, sm_set1, sm_setN, sm_setC, sm_mixN, sm_mixC, sm_isi, sm_isi2, sm_item0, sm_item1, sm_iset0, sm_iset1, wipe_n, wipe_c, List.set_cons_zero, List.set_cons_succ, List.getElem?_cons_zero, List.getElem?_cons_succ, List.length_cons, List.length_nil, Nat.zero_le, Bool.false_eq_true, if_true, if_false, Bool.not_true, Bool.not_false, Bool.not_not, kq_nx]
    have hl : l = [] := by
      cases l with
      | nil => rfl
      | cons q r => obtain ⟨p, v⟩ := q; cases hts
    subst hl
    rw [← hA]
    show Out.ret _ _ = Out.ret (.int ((A * 1 : Nat) : Int)) _
    rw [Nat.mul_one]
  · rintro t ts env st ⟨l, A, j, s3, s4, rfl, rfl, hts, hpr, hj, hsz, hA⟩
    cases l with
    | nil => cases hts
    | cons q r =>
      obtain ⟨p, v⟩ := q
      cases hts
      obtain ⟨hp, hv, hpv⟩ := hpr (p, v) (.head _)
      have hp : Pr p := hp
      have hpv : p ^ v ≤ n := hpv
      have hv : 1 ≤ v := hv
      have hp1 := hp.1
      have hv60 := pow_small hp1 hn hpv
      have hpn : p ≤ n := by
        have := Nat.pow_le_pow_right (n := p) (by omega) hv
        rw [Nat.pow_one] at this
        omega
      have hpw2 : p ^ (v - 1) ≤ n := Nat.le_trans (Nat.pow_le_pow_right (by omega) (by omega)) hpv
      have hlen2 : ((p, v) :: r).length = r.length + 1 := rfl
      have hco : Sz 21 (coF k p v : Int) := by
        have := coF_le (k := k) (p := p) (m := v) hk
        unfold Sz; omega
      have fin : ∀ B : Int, B = ((A * coF k p v : Nat) : Int) → ∃ (l : List (Nat × Nat)) (A j : Nat) (s3 s4 : Sl), ([.sh (.int k), .sh (.int n), .sh (.int B), .sh (.int p), .sh (.int v)] : Z.Env) = [.sh (.int k), .sh (.int n), .sh (.int A), s3, s4] ∧ (none : SD) = none ∧ bookD r = bookD l ∧ (∀ q ∈ l, Pr q.1 ∧ 1 ≤ q.2 ∧ q.1 ^ q.2 ≤ n) ∧ j + l.length ≤ 60 ∧ Sz (22 * j + 1) (A : Int) ∧ A * prL (coF k) l = prL (coF k) (book n) := by
        intro B hB
        refine ⟨r, A * coF k p v, j + 1, .sh (.int p), .sh (.int v), by rw [hB], rfl, rfl, fun q hq => hpr q (.tail _ hq), by omega, ?_, ?_⟩
        · rw [Int.natCast_mul]; exact (hsz.mul hco).mono (by omega)
        · rw [← hA]
          show _ = A * (coF k p v * prL (coF k) r)
          rw [Nat.mul_assoc]
      have mk : ∀ c : Int, Sz 62 c → mulOk A c = true := fun c hc => mul_ok (hsz.mono (show 22 * j + 1 ≤ 2000 by omega)) hc
      have sp : Sz 60 (p : Int) := by unfold Sz; omega
      simp only [e_var, e_rd, e_sr, e_cst, e_op1, e_op2, e_op3, e_chain, e_band, e_bor, e_ife, e_anil, e_acons, e_lst, e_tup, e_bi, e_call, e_calls, e_sget, ls_l, gV_sh, gR_sh, gR_br, gR_ow, gS_sh, gS_br, gO_ow, gF_ow, gF_sh, sm_some, w_asg1, w_asg, w_asgO, w_par, w_ret, w_drop, w_aug, w_mut, w_seti, w_augi, w_pop, w_frz, w_sset, w_ife, w_skip, w_brk, w_cont, w_seq, kq_ret, kq_bk, kq_ct, kl_bk, kl_ret, br_b, decide_eq_true_eq, decide_eq_false_iff_not, Bool.not_eq_true', Bool.not_eq_false', reduceCtorEq, true_implies, false_implies, forall_const, not_true_eq_false, not_false_eq_true, and_true, true_and, implies_true, sm_add, sm_addI, sm_addL, sm_addT, sm_cat, sm_sub, sm_mul, sm_div, sm_mod, sm_pow, sm_neg, sm_lt, sm_le, sm_gt, sm_ge, sm_eqI, sm_neI, sm_eqB, sm_neB, sm_isN, sm_isNotN, sm_truI, sm_truB, sm_truN, sm_truL, sm_truT, sm_not, sm_ixL, sm_ixT, sm_at0, sm_at1, sm_at2, sm_lenL, sm_lenT, sm_abs, sm_int, sm_intB, sm_max2, sm_min2, sm_listL, sm_listT, sm_tupL, sm_tupT, sm_seqL, sm_seqT, sm_lsL, sm_rng1, sm_rng2, sm_rng3, sm_app, sm_rep1, sm_set1, sm_setN, sm_setC, sm_mixN, sm_mixC, sm_isi, sm_isi2, sm_item0, sm_item1, sm_iset0, sm_iset1, wipe_n, wipe_c, List.set_cons_zero, List.set_cons_succ, List.getElem?_cons_zero, List.getElem?_cons_succ, List.length_cons, List.length_nil, Nat.zero_le, Bool.false_eq_true, if_true, if_false, Bool.not_true, Bool.not_false, Bool.not_not, sm_shl]
      refine ⟨fun c1 => ?_, fun c1 => ⟨fun c2 => ⟨by decide, fun c3 => ⟨fun c4 => ⟨mk _ (Sz.of (by decide) (by decide)), ?_⟩, fun c4 => ⟨⟨by omega, by omega, by decide⟩, ?_⟩⟩, fun c3 => ?_⟩, fun c2 => ?_⟩⟩
      · refine sm_power (n := v - 1) (k := 60) (by omega) sp (by omega) (by omega) ?_
        have e1 : ((p : Int) - 1) * (p : Int) ^ (v - 1) = (((p - 1) * p ^ (v - 1) : Nat) : Int) := by
          rw [Int.natCast_mul, Int.natCast_pow]; congr 1; omega
        have ok : mulOk ((p : Int) - 1) ((p : Int) ^ (v - 1)) = true := by
          rw [← Int.natCast_pow]; exact mul_sm
        simp only [e_var, e_rd, e_sr, e_cst, e_op1, e_op2, e_op3, e_chain, e_band, e_bor, e_ife, e_anil, e_acons, e_lst, e_tup, e_bi, e_call, e_calls, e_sget, ls_l, gV_sh, gR_sh, gR_br, gR_ow, gS_sh, gS_br, gO_ow, gF_ow, gF_sh, sm_some, w_asg1, w_asg, w_asgO, w_par, w_ret, w_drop, w_aug, w_mut, w_seti, w_augi, w_pop, w_frz, w_sset, w_ife, w_skip, w_brk, w_cont, w_seq, kq_ret, kq_bk, kq_ct, kl_bk, kl_ret, br_b, decide_eq_true_eq, decide_eq_false_iff_not, Bool.not_eq_true', Bool.not_eq_false', reduceCtorEq, true_implies, false_implies, forall_const, not_true_eq_false, not_false_eq_true, and_true, true_and, implies_true, sm_add, sm_addI, sm_addL, sm_addT, sm_cat, sm_sub, sm_mul, sm_div, sm_mod, sm_pow, sm_neg, sm_lt, sm_le, sm_gt, sm_ge, sm_eqI, sm_neI, sm_eqB, sm_neB, sm_isN, sm_isNotN, sm_truI, sm_truB, sm_truN, sm_truL, sm_truT, sm_not, sm_ixL, sm_ixT, sm_at0, sm_at1, sm_at2, sm_lenL, sm_lenT, sm_abs, sm_int, sm_intB, sm_max2, sm_min2, sm_listL, sm_listT, sm_tupL, sm_tupT, sm_seqL, sm_seqT, sm_lsL, sm_rng1, sm_rng2, sm_rng3, sm_app, sm_rep1, sm_set1, sm_setN, sm_setC, sm_mixN, sm_mixC, sm_isi, sm_isi2, sm_item0, sm_item1, sm_iset0, sm_iset1, wipe_n, wipe_c, List.set_cons_zero, List.set_cons_succ, List.getElem?_cons_zero, List.getElem?_cons_succ, List.length_cons, List.length_nil, Nat.zero_le, Bool.false_eq_true, if_true, if_false, Bool.not_true, Bool.not_false, Bool.not_not, e1]
        refine ⟨ok, sm_gcdB ?_⟩
        have hg := Nat.gcd_le_left ((p - 1) * p ^ (v - 1)) hk
        (try simp only [e_var, e_rd, e_sr, e_cst, e_op1, e_op2, e_op3, e_chain, e_band, e_bor, e_ife, e_anil, e_acons, e_lst, e_tup, e_bi, e_call, e_calls, e_sget, ls_l, gV_sh, gR_sh, gR_br, gR_ow, gS_sh, gS_br, gO_ow, gF_ow, gF_sh, sm_some, w_asg1, w_asg, w_asgO, w_par, w_ret, w_drop, w_aug, w_mut, w_seti, w_augi, w_pop, w_frz, w_sset, w_ife, w_skip, w_brk, w_cont, w_seq, kq_ret, kq_bk, kq_ct, kl_bk, kl_ret, br_b, decide_eq_true_eq, decide_eq_false_iff_not, Bool.not_eq_true', Bool.not_eq_false', reduceCtorEq, true_implies, false_implies, forall_const, not_true_eq_false, not_false_eq_true, and_true, true_and, implies_true, sm_add, sm_addI, sm_addL, sm_addT, sm_cat, sm_sub, sm_mul, sm_div, sm_mod, sm_pow, sm_neg, sm_lt, sm_le, sm_gt, sm_ge, sm_eqI, sm_neI, sm_eqB, sm_neB, sm_isN, sm_isNotN, sm_truI, sm_truB, sm_truN, sm_truL, sm_truT, sm_not, sm_ixL, sm_ixT, sm_at0, sm_at1, sm_at2, sm_lenL, sm_lenT, sm_abs, sm_int, sm_intB, sm_max2, sm_min2, sm_listL, sm_listT, sm_tupL, sm_tupT, sm_seqL, sm_seqT, sm_lsL, sm_rng1, sm_rng2, sm_rng3, sm_app, sm_rep1, sm_set1, sm_setN, sm_setC, sm_mixN, sm_mixC, sm_isi, sm_isi2, sm_item0, sm_item1, sm_iset0, sm_iset1, wipe_n, wipe_c, List.set_cons_zero, List.set_cons_succ, List.getElem?_cons_zero, List.getElem?_cons_succ, List.length_cons, List.length_nil, Nat.zero_le, Bool.false_eq_true, if_true, if_false, Bool.not_true, Bool.not_false, Bool.not_not])
        exact ⟨mk _ (Sz.of (by omega) (by omega)), fin _ (by rw [Int.natCast_mul]; unfold coF; rw [if_pos (by omega)])⟩
      · exact fin _ (by rw [Int.natCast_mul]; unfold coF; rw [if_neg (by omega), if_pos ⟨by omega, by omega⟩, if_pos (by omega)]; rfl)
      · have e2 : (1 : Int) * 2 ^ ((v : Int) - 2).toNat = ((2 ^ (v - 2) : Nat) : Int) := by
          rw [Int.one_mul, Int.natCast_pow]; congr 1; omega
        rw [e2]
        refine sm_gcdB ?_
        have hg := Nat.gcd_le_left (2 ^ (v - 2)) hk
        (try simp only [e_var, e_rd, e_sr, e_cst, e_op1, e_op2, e_op3, e_chain, e_band, e_bor, e_ife, e_anil, e_acons, e_lst, e_tup, e_bi, e_call, e_calls, e_sget, ls_l, gV_sh, gR_sh, gR_br, gR_ow, gS_sh, gS_br, gO_ow, gF_ow, gF_sh, sm_some, w_asg1, w_asg, w_asgO, w_par, w_ret, w_drop, w_aug, w_mut, w_seti, w_augi, w_pop, w_frz, w_sset, w_ife, w_skip, w_brk, w_cont, w_seq, kq_ret, kq_bk, kq_ct, kl_bk, kl_ret, br_b, decide_eq_true_eq, decide_eq_false_iff_not, Bool.not_eq_true', Bool.not_eq_false', reduceCtorEq, true_implies, false_implies, forall_const, not_true_eq_false, not_false_eq_true, and_true, true_and, implies_true, sm_add, sm_addI, sm_addL, sm_addT, sm_cat, sm_sub, sm_mul, sm_div, sm_mod, sm_pow, sm_neg, sm_lt, sm_le, sm_gt, sm_ge, sm_eqI, sm_neI, sm_eqB, sm_neB, sm_isN, sm_isNotN, sm_truI, sm_truB, sm_truN, sm_truL, sm_truT, sm_not, sm_ixL, sm_ixT, sm_at0, sm_at1, sm_at2, sm_lenL, sm_lenT, sm_abs, sm_int, sm_intB, sm_max2, sm_min2, sm_listL, sm_listT, sm_tupL, sm_tupT, sm_seqL, sm_seqT, sm_lsL, sm_rng1, sm_rng2, sm_rng3, sm_app, sm_rep1, sm_set1, sm_setN, sm_setC, sm_mixN, sm_mixC, sm_isi, sm_isi2, sm_item0, sm_item1, sm_iset0, sm_iset1, wipe_n, wipe_c, List.set_cons_zero, List.set_cons_succ, List.getElem?_cons_zero, List.getElem?_cons_succ, List.length_cons, List.length_nil, Nat.zero_le, Bool.false_eq_true, if_true, if_false, Bool.not_true, Bool.not_false, Bool.not_not])
        exact ⟨mul_sm, mk _ (Sz.of (by omega) (by omega)), fin _ (by rw [Int.natCast_mul]; unfold coF; rw [if_neg (by omega), if_pos ⟨by omega, by omega⟩, if_neg (by omega), Int.natCast_mul]; rfl)⟩
      · exact fin _ (by unfold coF; rw [if_neg (by omega), if_neg (by omega), Nat.mul_one])
      · exact fin _ (by unfold coF; rw [if_neg (by omega), if_neg (by omega), Nat.mul_one])
noncomputable def fs_count_ones : List D → Option D := FV 2 5 (z_count_ones fs_prime_powers fs_power)
theorem sm_count_ones {i j : Int} {k n : Nat} {Q : D → Prop} (ei : i = k) (ej : j = n) (hk : 1 ≤ k) (hk' : k < 1000000) (h1 : 1 ≤ n) (hn : n < 1152921504606846976) (q : Q (.int (prL (coF k) (book n) : Nat))) : Sm (fs_count_ones [.int i, .int j]) Q := by
  subst ei ej; exact FV.sm1 rfl (w_count_ones hk hk' h1 hn) q
theorem prL_mul {f : Nat → Nat → Nat} {n m : Nat} (h1 : 1 ≤ n) (h2 : 1 ≤ m) (hc : Nat.Coprime n m) : prL f (book (n * m)) = prL f (book n) * prL f (book m) := by
  rw [prL_perm (book_mul _ n m (Nat.le_refl _) h1 h2 hc), prL_app]
end ZC
namespace ZC
open PySem PySem.Spec PyProof.Rows L2 Z ZM

/-! ### drawn primes, drawn numbers without a common divisor -/
theorem book_prime {p : Nat} (h : Pr p) : book p = [(p, 1)] := by
  have h2 := h.1
  have e1 : lf p = p := lf_eq h2 h2 (Nat.dvd_refl _) fun e h3 h4 => h.2 e h3 h4
  have e2 := va_of (p := p) (n := p) (v := 1) (m := 1) h2 (by omega) (by rw [Nat.pow_one, Nat.mul_one]) (fun c => by have := Nat.le_of_dvd (by decide) c; omega)
  rw [book_step h2, e1, e2.1, e2.2, book_one (by omega)]
theorem prime_of_book {n v : Nat} (h : 2 ≤ n) (hb : book n = [(lf n, v)]) (hv : v ≤ 1) : Pr n := by
  have e := book_prod (n := n) (by omega)
  have hp := book_pr (n := n) (by omega) (lf n, v) (by rw [hb]; exact .head _)
  rw [hb] at e
  have hv1 : v = 1 := by have := hp.2; simp only at this; omega
  subst hv1
  have : lf n = n := by
    have : lf n ^ 1 * 1 = n := e
    rwa [Nat.pow_one, Nat.mul_one] at this
  rw [← this]
  exact lf_pr h
noncomputable def fs__law_prime : D → List D → Option (D × D) := FVs 2 3 (z__law_prime drawA fs__law_powers)
theorem sm__law_prime {t : D} {m : Int} {Q : D × D → Prop} (ht : GoodA t) (hm : 2 ≤ m) (hm' : m < 1000000000) (q : ∀ (p : Nat) t', Pr p → (p : Int) ≤ m → GoodA t' → Q (.int p, t')) : Sm (fs__law_prime t [.int m]) Q := by
  refine FVs.sm rfl ?_
  show W _ [.st, .sh (.int m), .no] _ _
  unfold z__law_prime
  simp only [e_var, e_rd, e_sr, e_cst, e_op1, e_op2, e_op3, e_chain, e_band, e_bor, e_ife, e_anil, e_acons, e_lst, e_tup, e_bi, e_call, e_calls, e_sget, ls_l, gV_sh, gR_sh, gR_br, gR_ow, gS_sh, gS_br, gO_ow, gF_ow, gF_sh, sm_some, w_asg1, w_asg, w_asgO, w_par, w_ret, w_drop, w_aug, w_mut, w_seti, w_augi, w_pop, w_frz, w_sset, w_ife, w_skip, w_brk, w_cont, w_seq, kq_ret, kq_bk, kq_ct, kl_bk, kl_ret, br_b, decide_eq_true_eq, decide_eq_false_iff_not, Bool.not_eq_true', Bool.not_eq_false', reduceCtorEq, true_implies, false_implies, forall_const, not_true_eq_false, not_false_eq_true, and_true, true_and, implies_true, sm_add, sm_addI, sm_addL, sm_addT, sm_cat, sm_sub, sm_mul, sm_div, sm_mod, sm_pow, sm_neg, sm_lt, sm_le, sm_gt, sm_ge, sm_eqI, sm_neI, sm_eqB, sm_neB, sm_isN, sm_isNotN, sm_truI, sm_truB, sm_truN, sm_truL, sm_truT, sm_not, sm_ixL, sm_ixT, sm_at0, sm_at1, sm_at2, sm_lenL, sm_lenT, sm_abs, sm_int, sm_intB, sm_max2, sm_min2, sm_listL, sm_listT, sm_tupL, sm_tupT, sm_seqL, sm_seqT, sm_lsL, sm_rng1, sm_rng2, sm_rng3, sm_app, sm_rep1, sm_set1, sm_setN, sm_setC, sm_mixN, sm_mixC, sm_isi, sm_isi2, sm_item0, sm_item1, sm_iset0, sm_iset1, wipe_n, wipe_c, List.set_cons_zero, List.set_cons_succ, List.getElem?_cons_zero, List.getElem?_cons_succ, List.length_cons, List.length_nil, Nat.zero_le, Bool.false_eq_true, if_true, if_false, Bool.not_true, Bool.not_false, Bool.not_not, kq_nx]
  refine sm_drawA ht (fun d t' hd ht' => ?_) (by omega) (by omega)
  simp only [e_var, e_rd, e_sr, e_cst, e_op1, e_op2, e_op3, e_chain, e_band, e_bor, e_ife, e_anil, e_acons, e_lst, e_tup, e_bi, e_call, e_calls, e_sget, ls_l, gV_sh, gR_sh, gR_br, gR_ow, gS_sh, gS_br, gO_ow, gF_ow, gF_sh, sm_some, w_asg1, w_asg, w_asgO, w_par, w_ret, w_drop, w_aug, w_mut, w_seti, w_augi, w_pop, w_frz, w_sset, w_ife, w_skip, w_brk, w_cont, w_seq, kq_ret, kq_bk, kq_ct, kl_bk, kl_ret, br_b, decide_eq_true_eq, decide_eq_false_iff_not, Bool.not_eq_true', Bool.not_eq_false', reduceCtorEq, true_implies, false_implies, forall_const, not_true_eq_false, not_false_eq_true, and_true, true_and, implies_true, sm_add, sm_addI, sm_addL, sm_addT, sm_cat, sm_sub, sm_mul, sm_div, sm_mod, sm_pow, sm_neg, sm_lt, sm_le, sm_gt, sm_ge, sm_eqI, sm_neI, sm_eqB, sm_neB, sm_isN, sm_isNotN, sm_truI, sm_truB, sm_truN, sm_truL, sm_truT, sm_not, sm_ixL, sm_ixT, sm_at0, sm_at1, sm_at2, sm_lenL, sm_lenT, sm_abs, sm_int, sm_intB, sm_max2, sm_min2, sm_listL, sm_listT, sm_tupL, sm_tupT, sm_seqL, sm_seqT, sm_lsL, sm_rng1, sm_rng2, sm_rng3, sm_app, sm_rep1, sm_set1, sm_setN, sm_setC, sm_mixN, sm_mixC, sm_isi, sm_isi2, sm_item0, sm_item1, sm_iset0, sm_iset1, wipe_n, wipe_c, List.set_cons_zero, List.set_cons_succ, List.getElem?_cons_zero, List.getElem?_cons_succ, List.length_cons, List.length_nil, Nat.zero_le, Bool.false_eq_true, if_true, if_false, Bool.not_true, Bool.not_false, Bool.not_not, kq_nx]
  rw [show (2 : Int) + (d : Int) = ((d + 2 : Nat) : Int) by omega]
  refine W.whl (fun k env st => ∃ n : Nat, env = [.st, .sh (.int m), .sh (.int n)] ∧ st = some t' ∧ 2 ≤ n ∧ (n : Int) ≤ m ∧ k = n + 1) (d + 3) ⟨d + 2, rfl, rfl, by omega, by omega, rfl⟩ ?_
  rintro k env st ⟨n, rfl, rfl, hn2, hnm, rfl⟩
  have hbs := book_step hn2
  have hD : bookD (book n) = .tuple [.int (lf n : Nat), .int (va (lf n) n : Nat)] :: bookD (book (vr (lf n) n)) := by rw [hbs]; rfl
  simp only [e_var, e_rd, e_sr, e_cst, e_op1, e_op2, e_op3, e_chain, e_band, e_bor, e_ife, e_anil, e_acons, e_lst, e_tup, e_bi, e_call, e_calls, e_sget, ls_l, gV_sh, gR_sh, gR_br, gR_ow, gS_sh, gS_br, gO_ow, gF_ow, gF_sh, sm_some, w_asg1, w_asg, w_asgO, w_par, w_ret, w_drop, w_aug, w_mut, w_seti, w_augi, w_pop, w_frz, w_sset, w_ife, w_skip, w_brk, w_cont, w_seq, kq_ret, kq_bk, kq_ct, kl_bk, kl_ret, br_b, decide_eq_true_eq, decide_eq_false_iff_not, Bool.not_eq_true', Bool.not_eq_false', reduceCtorEq, true_implies, false_implies, forall_const, not_true_eq_false, not_false_eq_true, and_true, true_and, implies_true, sm_add, sm_addI, sm_addL, sm_addT, sm_cat, sm_sub, sm_mul, sm_div, sm_mod, sm_pow, sm_neg, sm_lt, sm_le, sm_gt, sm_ge, sm_eqI, sm_neI, sm_eqB, sm_neB, sm_isN, sm_isNotN, sm_truI, sm_truB, sm_truN, sm_truL, sm_truT, sm_not, sm_ixL, sm_ixT, sm_at0, sm_at1, sm_at2, sm_lenL, sm_lenT, sm_abs, sm_int, sm_intB, sm_max2, sm_min2, sm_listL, sm_listT, sm_tupL, sm_tupT, sm_seqL, sm_seqT, sm_lsL, sm_rng1, sm_rng2, sm_rng3, sm_app, sm_rep1, sm_set1, sm_setN, sm_setC, sm_mixN, sm_mixC, sm_isi, sm_isi2, sm_item0, sm_item1, sm_iset0, sm_iset1, wipe_n, wipe_c, List.set_cons_zero, List.set_cons_succ, List.getElem?_cons_zero, List.getElem?_cons_succ, List.length_cons, List.length_nil, Nat.zero_le, Bool.false_eq_true, if_true, if_false, Bool.not_true, Bool.not_false, Bool.not_not]
  refine sm__law_powers rfl (by omega) (by omega) ?_
  have fin : ¬ Pr n → ∃ k, k < n + 1 ∧ ∃ n' : Nat, ([.st, .sh (.int m), .sh (.int ((n : Int) - 1))] : Z.Env) = [.st, .sh (.int m), .sh (.int n')] ∧ some t' = some t' ∧ 2 ≤ n' ∧ (n' : Int) ≤ m ∧ k = n' + 1 := fun hp => by
    have : n ≠ 2 := by
      rintro rfl
      exact hp ⟨by decide, fun d _ _ => by omega⟩
    exact ⟨n - 1 + 1, by omega, n - 1, by rw [show (n : Int) - 1 = ((n - 1 : Nat) : Int) by omega], rfl, by omega, by omega, rfl⟩
  (try simp only [e_var, e_rd, e_sr, e_cst, e_op1, e_op2, e_op3, e_chain, e_band, e_bor, e_ife, e_anil, e_acons, e_lst, e_tup, e_bi, e_call, e_calls, e_sget, ls_l, gV_sh, gR_sh, gR_br, gR_ow, gS_sh, gS_br, gO_ow, gF_ow, gF_sh, sm_some, w_asg1, w_asg, w_asgO, w_par, w_ret, w_drop, w_aug, w_mut, w_seti, w_augi, w_pop, w_frz, w_sset, w_ife, w_skip, w_brk, w_cont, w_seq, kq_ret, kq_bk, kq_ct, kl_bk, kl_ret, br_b, decide_eq_true_eq, decide_eq_false_iff_not, Bool.not_eq_true', Bool.not_eq_false', reduceCtorEq, true_implies, false_implies, forall_const, not_true_eq_false, not_false_eq_true, and_true, true_and, implies_true, sm_add, sm_addI, sm_addL, sm_addT, sm_cat, sm_sub, sm_mul, sm_div, sm_mod, sm_pow, sm_neg, sm_lt, sm_le, sm_gt, sm_ge, sm_eqI, sm_neI, sm_eqB, sm_neB, sm_isN, sm_isNotN, sm_truI, sm_truB, sm_truN, sm_truL, sm_truT, sm_not, sm_ixL, sm_ixT, sm_at0, sm_at1, sm_at2, sm_lenL, sm_lenT, sm_abs, sm_int, sm_intB, sm_max2, sm_min2, sm_listL, sm_listT, sm_tupL, sm_tupT, sm_seqL, sm_seqT, sm_lsL, sm_rng1, sm_rng2, sm_rng3, sm_app, sm_rep1, sm_set1, sm_setN, sm_setC, sm_mixN, sm_mixC, sm_isi, sm_isi2, sm_item0, sm_item1, sm_iset0, sm_iset1, wipe_n, wipe_c, List.set_cons_zero, List.set_cons_succ, List.getElem?_cons_zero, List.getElem?_cons_succ, List.length_cons, List.length_nil, Nat.zero_le, Bool.false_eq_true, if_true, if_false, Bool.not_true, Bool.not_false, Bool.not_not])
  refine ⟨fun c1 => fin fun hp => c1 ?_, fun c1 => sm__law_powers rfl (by omega) (by omega) ?_⟩
  · rw [book_prime hp]; rfl
  · have hb1 : book n = [(lf n, va (lf n) n)] := by
      rw [bookD_len] at c1
      have h1 : (book n).length = 1 := by omega
      rw [hbs] at h1 ⊢
      simp only [List.length_cons] at h1
      have : book (vr (lf n) n) = [] := List.length_eq_zero_iff.mp (by omega)
      rw [this]
    rw [hD]
    (try simp only [e_var, e_rd, e_sr, e_cst, e_op1, e_op2, e_op3, e_chain, e_band, e_bor, e_ife, e_anil, e_acons, e_lst, e_tup, e_bi, e_call, e_calls, e_sget, ls_l, gV_sh, gR_sh, gR_br, gR_ow, gS_sh, gS_br, gO_ow, gF_ow, gF_sh, sm_some, w_asg1, w_asg, w_asgO, w_par, w_ret, w_drop, w_aug, w_mut, w_seti, w_augi, w_pop, w_frz, w_sset, w_ife, w_skip, w_brk, w_cont, w_seq, kq_ret, kq_bk, kq_ct, kl_bk, kl_ret, br_b, decide_eq_true_eq, decide_eq_false_iff_not, Bool.not_eq_true', Bool.not_eq_false', reduceCtorEq, true_implies, false_implies, forall_const, not_true_eq_false, not_false_eq_true, and_true, true_and, implies_true, sm_add, sm_addI, sm_addL, sm_addT, sm_cat, sm_sub, sm_mul, sm_div, sm_mod, sm_pow, sm_neg, sm_lt, sm_le, sm_gt, sm_ge, sm_eqI, sm_neI, sm_eqB, sm_neB, sm_isN, sm_isNotN, sm_truI, sm_truB, sm_truN, sm_truL, sm_truT, sm_not, sm_ixL, sm_ixT, sm_at0, sm_at1, sm_at2, sm_lenL, sm_lenT, sm_abs, sm_int, sm_intB, sm_max2, sm_min2, sm_listL, sm_listT, sm_tupL, sm_tupT, sm_seqL, sm_seqT, sm_lsL, sm_rng1, sm_rng2, sm_rng3, sm_app, sm_rep1, sm_set1, sm_setN, sm_setC, sm_mixN, sm_mixC, sm_isi, sm_isi2, sm_item0, sm_item1, sm_iset0, sm_iset1, wipe_n, wipe_c, List.set_cons_zero, List.set_cons_succ, List.getElem?_cons_zero, List.getElem?_cons_succ, List.length_cons, List.length_nil, Nat.zero_le, Bool.false_eq_true, if_true, if_false, Bool.not_true, Bool.not_false, Bool.not_not])
    refine ⟨fun c2 => fin fun hp => ?_, fun c2 => ?_⟩
    · have := book_prime hp
      rw [hb1] at this
      simp only [List.cons.injEq, Prod.mk.injEq, and_true] at this
      omega
    · rw [kq_nx]
      simp only [e_var, e_rd, e_sr, e_cst, e_op1, e_op2, e_op3, e_chain, e_band, e_bor, e_ife, e_anil, e_acons, e_lst, e_tup, e_bi, e_call, e_calls, e_sget, ls_l, gV_sh, gR_sh, gR_br, gR_ow, gS_sh, gS_br, gO_ow, gF_ow, gF_sh, sm_some, w_asg1, w_asg, w_asgO, w_par, w_ret, w_drop, w_aug, w_mut, w_seti, w_augi, w_pop, w_frz, w_sset, w_ife, w_skip, w_brk, w_cont, w_seq, kq_ret, kq_bk, kq_ct, kl_bk, kl_ret, br_b, decide_eq_true_eq, decide_eq_false_iff_not, Bool.not_eq_true', Bool.not_eq_false', reduceCtorEq, true_implies, false_implies, forall_const, not_true_eq_false, not_false_eq_true, and_true, true_and, implies_true, sm_add, sm_addI, sm_addL, sm_addT, sm_cat, sm_sub, sm_mul, sm_div, sm_mod, sm_pow, sm_neg, sm_lt, sm_le, sm_gt, sm_ge, sm_eqI, sm_neI, sm_eqB, sm_neB, sm_isN, sm_isNotN, sm_truI, sm_truB, sm_truN, sm_truL, sm_truT, sm_not, sm_ixL, sm_ixT, sm_at0, sm_at1, sm_at2, sm_lenL, sm_lenT, sm_abs, sm_int, sm_intB, sm_max2, sm_min2, sm_listL, sm_listT, sm_tupL, sm_tupT, sm_seqL, sm_seqT, sm_lsL, sm_rng1, sm_rng2, sm_rng3, sm_app, sm_rep1, sm_set1, sm_setN, sm_setC, sm_mixN, sm_mixC, sm_isi, sm_isi2, sm_item0, sm_item1, sm_iset0, sm_iset1, wipe_n, wipe_c, List.set_cons_zero, List.set_cons_succ, List.getElem?_cons_zero, List.getElem?_cons_succ, List.length_cons, List.length_nil, Nat.zero_le, Bool.false_eq_true, if_true, if_false, Bool.not_true, Bool.not_false, Bool.not_not]
      exact ⟨_, _, rfl, q n t' (prime_of_book hn2 hb1 (by omega)) hnm ht'⟩
noncomputable def fs__law_without : D → List D → Option (D × D) := FVs 2 3 (z__law_without drawA fs__law_gcd)
theorem sm__law_without {t : D} {i : Int} {n : Nat} {Q : D × D → Prop} (ht : GoodA t) (ei : i = n) (hn : 1 ≤ n) (hn' : n < 1000000000) (q : ∀ (a : Nat) t', Nat.Coprime a n → 1 ≤ a → a ≤ 4 * n + 1 → GoodA t' → Q (.int a, t')) : Sm (fs__law_without t [.int i]) Q := by
  subst ei
  refine FVs.sm rfl ?_
  show W _ [.st, .sh (.int n), .no] _ _
  unfold z__law_without
  simp only [e_var, e_rd, e_sr, e_cst, e_op1, e_op2, e_op3, e_chain, e_band, e_bor, e_ife, e_anil, e_acons, e_lst, e_tup, e_bi, e_call, e_calls, e_sget, ls_l, gV_sh, gR_sh, gR_br, gR_ow, gS_sh, gS_br, gO_ow, gF_ow, gF_sh, sm_some, w_asg1, w_asg, w_asgO, w_par, w_ret, w_drop, w_aug, w_mut, w_seti, w_augi, w_pop, w_frz, w_sset, w_ife, w_skip, w_brk, w_cont, w_seq, kq_ret, kq_bk, kq_ct, kl_bk, kl_ret, br_b, decide_eq_true_eq, decide_eq_false_iff_not, Bool.not_eq_true', Bool.not_eq_false', reduceCtorEq, true_implies, false_implies, forall_const, not_true_eq_false, not_false_eq_true, and_true, true_and, implies_true, sm_add, sm_addI, sm_addL, sm_addT, sm_cat, sm_sub, sm_mul, sm_div, sm_mod, sm_pow, sm_neg, sm_lt, sm_le, sm_gt, sm_ge, sm_eqI, sm_neI, sm_eqB, sm_neB, sm_isN, sm_isNotN, sm_truI, sm_truB, sm_truN, sm_truL, sm_truT, sm_not, sm_ixL, sm_ixT, sm_at0, sm_at1, sm_at2, sm_lenL, sm_lenT, sm_abs, sm_int, sm_intB, sm_max2, sm_min2, sm_listL, sm_listT, sm_tupL, sm_tupT, sm_seqL, sm_seqT, sm_lsL, sm_rng1, sm_rng2, sm_rng3, sm_app, sm_rep1, sm_set1, sm_setN, sm_setC, sm_mixN, sm_mixC, sm_isi, sm_isi2, sm_item0, sm_item1, sm_iset0, sm_iset1, wipe_n, wipe_c, List.set_cons_zero, List.set_cons_succ, List.getElem?_cons_zero, List.getElem?_cons_succ, List.length_cons, List.length_nil, Nat.zero_le, Bool.false_eq_true, if_true, if_false, Bool.not_true, Bool.not_false, Bool.not_not, kq_nx]
  refine ⟨mul_sm, sm_drawA ht (fun d t' hd ht' => ?_) (by omega) (by omega)⟩
  simp only [e_var, e_rd, e_sr, e_cst, e_op1, e_op2, e_op3, e_chain, e_band, e_bor, e_ife, e_anil, e_acons, e_lst, e_tup, e_bi, e_call, e_calls, e_sget, ls_l, gV_sh, gR_sh, gR_br, gR_ow, gS_sh, gS_br, gO_ow, gF_ow, gF_sh, sm_some, w_asg1, w_asg, w_asgO, w_par, w_ret, w_drop, w_aug, w_mut, w_seti, w_augi, w_pop, w_frz, w_sset, w_ife, w_skip, w_brk, w_cont, w_seq, kq_ret, kq_bk, kq_ct, kl_bk, kl_ret, br_b, decide_eq_true_eq, decide_eq_false_iff_not, Bool.not_eq_true', Bool.not_eq_false', reduceCtorEq, true_implies, false_implies, forall_const, not_true_eq_false, not_false_eq_true, and_true, true_and, implies_true, sm_add, sm_addI, sm_addL, sm_addT, sm_cat, sm_sub, sm_mul, sm_div, sm_mod, sm_pow, sm_neg, sm_lt, sm_le, sm_gt, sm_ge, sm_eqI, sm_neI, sm_eqB, sm_neB, sm_isN, sm_isNotN, sm_truI, sm_truB, sm_truN, sm_truL, sm_truT, sm_not, sm_ixL, sm_ixT, sm_at0, sm_at1, sm_at2, sm_lenL, sm_lenT, sm_abs, sm_int, sm_intB, sm_max2, sm_min2, sm_listL, sm_listT, sm_tupL, sm_tupT, sm_seqL, sm_seqT, sm_lsL, sm_rng1, sm_rng2, sm_rng3, sm_app, sm_rep1, sm_set1, sm_setN, sm_setC, sm_mixN, sm_mixC, sm_isi, sm_isi2, sm_item0, sm_item1, sm_iset0, sm_iset1, wipe_n, wipe_c, List.set_cons_zero, List.set_cons_succ, List.getElem?_cons_zero, List.getElem?_cons_succ, List.length_cons, List.length_nil, Nat.zero_le, Bool.false_eq_true, if_true, if_false, Bool.not_true, Bool.not_false, Bool.not_not, kq_nx]
  obtain ⟨B, hB⟩ : ∃ B, B = n * ((d + 1) / n + 1) + 1 := ⟨_, rfl⟩
  have hBc : Nat.gcd B n = 1 := by
    rw [hB, Nat.gcd_comm, Nat.add_comm, Nat.gcd_add_mul_left_right]
    exact Nat.gcd_one_right n
  have hdm := Nat.div_add_mod (d + 1) n
  have hml := Nat.mod_lt (d + 1) (show 0 < n by omega)
  have hB1 : d + 1 ≤ B := by rw [hB, Nat.mul_succ]; omega
  have hB2 : B ≤ 4 * n + 1 := by
    rw [hB, Nat.mul_succ]
    omega
  have hd3 : d + 1 ≤ 3 * n := by omega
  rw [show (1 : Int) + (d : Int) = ((d + 1 : Nat) : Int) by omega]
  refine W.whl (fun k env st => ∃ a : Nat, env = [.st, .sh (.int n), .sh (.int a)] ∧ st = some t' ∧ 1 ≤ a ∧ a ≤ B ∧ k = B - a) (B - (d + 1)) ⟨d + 1, rfl, rfl, by omega, hB1, rfl⟩ ?_
  rintro k env st ⟨a, rfl, rfl, ha1, haB, rfl⟩
  simp only [e_var, e_rd, e_sr, e_cst, e_op1, e_op2, e_op3, e_chain, e_band, e_bor, e_ife, e_anil, e_acons, e_lst, e_tup, e_bi, e_call, e_calls, e_sget, ls_l, gV_sh, gR_sh, gR_br, gR_ow, gS_sh, gS_br, gO_ow, gF_ow, gF_sh, sm_some, w_asg1, w_asg, w_asgO, w_par, w_ret, w_drop, w_aug, w_mut, w_seti, w_augi, w_pop, w_frz, w_sset, w_ife, w_skip, w_brk, w_cont, w_seq, kq_ret, kq_bk, kq_ct, kl_bk, kl_ret, br_b, decide_eq_true_eq, decide_eq_false_iff_not, Bool.not_eq_true', Bool.not_eq_false', reduceCtorEq, true_implies, false_implies, forall_const, not_true_eq_false, not_false_eq_true, and_true, true_and, implies_true, sm_add, sm_addI, sm_addL, sm_addT, sm_cat, sm_sub, sm_mul, sm_div, sm_mod, sm_pow, sm_neg, sm_lt, sm_le, sm_gt, sm_ge, sm_eqI, sm_neI, sm_eqB, sm_neB, sm_isN, sm_isNotN, sm_truI, sm_truB, sm_truN, sm_truL, sm_truT, sm_not, sm_ixL, sm_ixT, sm_at0, sm_at1, sm_at2, sm_lenL, sm_lenT, sm_abs, sm_int, sm_intB, sm_max2, sm_min2, sm_listL, sm_listT, sm_tupL, sm_tupT, sm_seqL, sm_seqT, sm_lsL, sm_rng1, sm_rng2, sm_rng3, sm_app, sm_rep1, sm_set1, sm_setN, sm_setC, sm_mixN, sm_mixC, sm_isi, sm_isi2, sm_item0, sm_item1, sm_iset0, sm_iset1, wipe_n, wipe_c, List.set_cons_zero, List.set_cons_succ, List.getElem?_cons_zero, List.getElem?_cons_succ, List.length_cons, List.length_nil, Nat.zero_le, Bool.false_eq_true, if_true, if_false, Bool.not_true, Bool.not_false, Bool.not_not]
  refine sm__law_gcd rfl rfl ?_
  (try simp only [e_var, e_rd, e_sr, e_cst, e_op1, e_op2, e_op3, e_chain, e_band, e_bor, e_ife, e_anil, e_acons, e_lst, e_tup, e_bi, e_call, e_calls, e_sget, ls_l, gV_sh, gR_sh, gR_br, gR_ow, gS_sh, gS_br, gO_ow, gF_ow, gF_sh, sm_some, w_asg1, w_asg, w_asgO, w_par, w_ret, w_drop, w_aug, w_mut, w_seti, w_augi, w_pop, w_frz, w_sset, w_ife, w_skip, w_brk, w_cont, w_seq, kq_ret, kq_bk, kq_ct, kl_bk, kl_ret, br_b, decide_eq_true_eq, decide_eq_false_iff_not, Bool.not_eq_true', Bool.not_eq_false', reduceCtorEq, true_implies, false_implies, forall_const, not_true_eq_false, not_false_eq_true, and_true, true_and, implies_true, sm_add, sm_addI, sm_addL, sm_addT, sm_cat, sm_sub, sm_mul, sm_div, sm_mod, sm_pow, sm_neg, sm_lt, sm_le, sm_gt, sm_ge, sm_eqI, sm_neI, sm_eqB, sm_neB, sm_isN, sm_isNotN, sm_truI, sm_truB, sm_truN, sm_truL, sm_truT, sm_not, sm_ixL, sm_ixT, sm_at0, sm_at1, sm_at2, sm_lenL, sm_lenT, sm_abs, sm_int, sm_intB, sm_max2, sm_min2, sm_listL, sm_listT, sm_tupL, sm_tupT, sm_seqL, sm_seqT, sm_lsL, sm_rng1, sm_rng2, sm_rng3, sm_app, sm_rep1, sm_set1, sm_setN, sm_setC, sm_mixN, sm_mixC, sm_isi, sm_isi2, sm_item0, sm_item1, sm_iset0, sm_iset1, wipe_n, wipe_c, List.set_cons_zero, List.set_cons_succ, List.getElem?_cons_zero, List.getElem?_cons_succ, List.length_cons, List.length_nil, Nat.zero_le, Bool.false_eq_true, if_true, if_false, Bool.not_true, Bool.not_false, Bool.not_not])
  refine ⟨fun c1 => ?_, fun c1 => ?_⟩
  · have : a ≠ B := by
      rintro rfl
      omega
    exact ⟨B - (a + 1), by omega, a + 1, rfl, rfl, by omega, by omega, rfl⟩
  · rw [kq_nx]
    simp only [e_var, e_rd, e_sr, e_cst, e_op1, e_op2, e_op3, e_chain, e_band, e_bor, e_ife, e_anil, e_acons, e_lst, e_tup, e_bi, e_call, e_calls, e_sget, ls_l, gV_sh, gR_sh, gR_br, gR_ow, gS_sh, gS_br, gO_ow, gF_ow, gF_sh, sm_some, w_asg1, w_asg, w_asgO, w_par, w_ret, w_drop, w_aug, w_mut, w_seti, w_augi, w_pop, w_frz, w_sset, w_ife, w_skip, w_brk, w_cont, w_seq, kq_ret, kq_bk, kq_ct, kl_bk, kl_ret, br_b, decide_eq_true_eq, decide_eq_false_iff_not, Bool.not_eq_true', Bool.not_eq_false', reduceCtorEq, true_implies, false_implies, forall_const, not_true_eq_false, not_false_eq_true, and_true, true_and, implies_true, sm_add, sm_addI, sm_addL, sm_addT, sm_cat, sm_sub, sm_mul, sm_div, sm_mod, sm_pow, sm_neg, sm_lt, sm_le, sm_gt, sm_ge, sm_eqI, sm_neI, sm_eqB, sm_neB, sm_isN, sm_isNotN, sm_truI, sm_truB, sm_truN, sm_truL, sm_truT, sm_not, sm_ixL, sm_ixT, sm_at0, sm_at1, sm_at2, sm_lenL, sm_lenT, sm_abs, sm_int, sm_intB, sm_max2, sm_min2, sm_listL, sm_listT, sm_tupL, sm_tupT, sm_seqL, sm_seqT, sm_lsL, sm_rng1, sm_rng2, sm_rng3, sm_app, sm_rep1, sm_set1, sm_setN, sm_setC, sm_mixN, sm_mixC, sm_isi, sm_isi2, sm_item0, sm_item1, sm_iset0, sm_iset1, wipe_n, wipe_c, List.set_cons_zero, List.set_cons_succ, List.getElem?_cons_zero, List.getElem?_cons_succ, List.length_cons, List.length_nil, Nat.zero_le, Bool.false_eq_true, if_true, if_false, Bool.not_true, Bool.not_false, Bool.not_not]
    have hg : 0 < Nat.gcd a n := Nat.gcd_pos_of_pos_left _ ha1
    exact ⟨_, _, rfl, q a t' (by unfold Nat.Coprime; omega) ha1 (by omega) ht'⟩

/-! ### lengths of the beginning and the round -/
structure IsCop (b q l u : Nat) : Prop where
  mul : q = l * u
  cop : Nat.Coprime l b
  sm : ∃ K, 2 ^ K ≤ u ∧ u ∣ b ^ K
theorem IsCop.uniq {b q l u l' u' : Nat} (hq : 1 ≤ q) (h : IsCop b q l u) (h' : IsCop b q l' u') : l = l' ∧ u = u' := by
  have key : ∀ {l u l' u' : Nat}, IsCop b q l u → IsCop b q l' u' → l ∣ l' := fun {l u l' u'} h h' => by
    obtain ⟨K, _, hK⟩ := h'.sm
    have hc : Nat.Coprime l u' := Nat.Coprime.coprime_dvd_right hK (Nat.Coprime.pow_right K h.cop)
    exact hc.dvd_of_dvd_mul_right ⟨u, by rw [← h'.mul, ← h.mul]⟩
  have e := Nat.dvd_antisymm (key h h') (key h' h)
  subst e
  refine ⟨rfl, ?_⟩
  have hl : 0 < l := by
    rcases Nat.eq_zero_or_pos l with c | c
    · have := h.mul; rw [c, Nat.zero_mul] at this; omega
    · exact c
  exact Nat.eq_of_mul_eq_mul_left hl (h.mul.symm.trans h'.mul)
theorem IsCop.prod {b n l u m l' u' : Nat} (h : IsCop b n l u) (h' : IsCop b m l' u') : IsCop b (n * m) (l * l') (u * u') := by
  obtain ⟨K, h1, h2⟩ := h.sm
  obtain ⟨K', h1', h2'⟩ := h'.sm
  refine ⟨by rw [h.mul, h'.mul]; grind, Nat.Coprime.mul_left h.cop h'.cop, K + K', ?_, ?_⟩
  · rw [Nat.pow_add]; exact Nat.mul_le_mul h1 h1'
  · rw [Nat.pow_add]; exact Nat.mul_dvd_mul h2 h2'
/-- the least exponent -/
structure Lk (b u k : Nat) : Prop where
  dvd : u ∣ b ^ k
  min : ∀ j, j < k → ¬ u ∣ b ^ j
theorem Lk.uniq {b u k k' : Nat} (h : Lk b u k) (h' : Lk b u k') : k = k' := by
  rcases Nat.lt_trichotomy k k' with c | c | c
  · exact absurd h.dvd (h'.min k c)
  · exact c
  · exact absurd h'.dvd (h.min k' c)
theorem Lk.mul {b u v k k' : Nat} (hc : Nat.Coprime u v) (h : Lk b u k) (h' : Lk b v k') : Lk b (u * v) (max k k') := by
  refine ⟨Nat.Coprime.mul_dvd_of_dvd_of_dvd hc (Nat.dvd_trans h.dvd (Nat.pow_dvd_pow b (Nat.le_max_left k k'))) (Nat.dvd_trans h'.dvd (Nat.pow_dvd_pow b (Nat.le_max_right k k'))), fun j hj hd => ?_⟩
  have d1 := Nat.dvd_trans (Nat.dvd_mul_right u v) hd
  have d2 := Nat.dvd_trans (Nat.dvd_mul_left v u) hd
  rcases Nat.lt_or_ge j k with c | c
  · exact h.min j c d1
  · exact h'.min j (by omega) d2
theorem w_lengths_of {q b : Nat} (hq : 1 ≤ q) (hq' : q < 1152921504606846976) (hb : 1 ≤ b) (hb' : b < 1024) : W (z_lengths_of fs_power fs_order_of) [.sh (.int q), .sh (.int b), .no, .no] none (fun o => ∃ l u k d : Nat, o = .ret (.tuple [.int k, .int d]) none ∧ IsCop b q l u ∧ Lk b u k ∧ IsOrd b l d) := by
  unfold z_lengths_of
  simp only [e_var, e_rd, e_sr, e_cst, e_op1, e_op2, e_op3, e_chain, e_band, e_bor, e_ife, e_anil, e_acons, e_lst, e_tup, e_bi, e_call, e_calls, e_sget, ls_l, gV_sh, gR_sh, gR_br, gR_ow, gS_sh, gS_br, gO_ow, gF_ow, gF_sh, sm_some, w_asg1, w_asg, w_asgO, w_par, w_ret, w_drop, w_aug, w_mut, w_seti, w_augi, w_pop, w_frz, w_sset, w_ife, w_skip, w_brk, w_cont, w_seq, kq_ret, kq_bk, kq_ct, kl_bk, kl_ret, br_b, decide_eq_true_eq, decide_eq_false_iff_not, Bool.not_eq_true', Bool.not_eq_false', reduceCtorEq, true_implies, false_implies, forall_const, not_true_eq_false, not_false_eq_true, and_true, true_and, implies_true, sm_add, sm_addI, sm_addL, sm_addT, sm_cat, sm_sub, sm_mul, sm_div, sm_mod, sm_pow, sm_neg, sm_lt, sm_le, sm_gt, sm_ge, sm_eqI, sm_neI, sm_eqB, sm_neB, sm_isN, sm_isNotN, sm_truI, sm_truB, sm_truN, sm_truL, sm_truT, sm_not, sm_ixL, sm_ixT, sm_at0, sm_at1, sm_at2, sm_lenL, sm_lenT, sm_abs, sm_int, sm_intB, sm_max2, sm_min2, sm_listL, sm_listT, sm_tupL, sm_tupT, sm_seqL, sm_seqT, sm_lsL, sm_rng1, sm_rng2, sm_rng3, sm_app, sm_rep1, sm_set1, sm_setN, sm_setC, sm_mixN, sm_mixC, sm_isi, sm_isi2, sm_item0, sm_item1, sm_iset0, sm_iset1, wipe_n, wipe_c, List.set_cons_zero, List.set_cons_succ, List.getElem?_cons_zero, List.getElem?_cons_succ, List.length_cons, List.length_nil, Nat.zero_le, Bool.false_eq_true, if_true, if_false, Bool.not_true, Bool.not_false, Bool.not_not, kq_nx]
  refine W.whl (fun m env st => ∃ l u : Nat, env = [.sh (.int q), .sh (.int b), .sh (.int l), .no] ∧ st = none ∧ q = l * u ∧ (∃ K, 2 ^ K ≤ u ∧ u ∣ b ^ K) ∧ m = l + 1) (q + 1) ⟨q, 1, rfl, rfl, (Nat.mul_one q).symm, ⟨0, Nat.le_refl _, Nat.one_dvd _⟩, rfl⟩ ?_
  rintro m env st ⟨l, u, rfl, rfl, hm, ⟨K, hK1, hK2⟩, rfl⟩
  have hl : 1 ≤ l := by
    rcases Nat.eq_zero_or_pos l with c | c
    · rw [c, Nat.zero_mul] at hm; omega
    · exact c
  have hu : 1 ≤ u := Nat.le_trans (Nat.pow_pos (by decide)) hK1
  have hlq : l ≤ q := by rw [hm]; exact Nat.le_mul_of_pos_right _ hu
  have huq : u ≤ q := by rw [hm]; exact Nat.le_mul_of_pos_left _ hl
  simp only [e_var, e_rd, e_sr, e_cst, e_op1, e_op2, e_op3, e_chain, e_band, e_bor, e_ife, e_anil, e_acons, e_lst, e_tup, e_bi, e_call, e_calls, e_sget, ls_l, gV_sh, gR_sh, gR_br, gR_ow, gS_sh, gS_br, gO_ow, gF_ow, gF_sh, sm_some, w_asg1, w_asg, w_asgO, w_par, w_ret, w_drop, w_aug, w_mut, w_seti, w_augi, w_pop, w_frz, w_sset, w_ife, w_skip, w_brk, w_cont, w_seq, kq_ret, kq_bk, kq_ct, kl_bk, kl_ret, br_b, decide_eq_true_eq, decide_eq_false_iff_not, Bool.not_eq_true', Bool.not_eq_false', reduceCtorEq, true_implies, false_implies, forall_const, not_true_eq_false, not_false_eq_true, and_true, true_and, implies_true, sm_add, sm_addI, sm_addL, sm_addT, sm_cat, sm_sub, sm_mul, sm_div, sm_mod, sm_pow, sm_neg, sm_lt, sm_le, sm_gt, sm_ge, sm_eqI, sm_neI, sm_eqB, sm_neB, sm_isN, sm_isNotN, sm_truI, sm_truB, sm_truN, sm_truL, sm_truT, sm_not, sm_ixL, sm_ixT, sm_at0, sm_at1, sm_at2, sm_lenL, sm_lenT, sm_abs, sm_int, sm_intB, sm_max2, sm_min2, sm_listL, sm_listT, sm_tupL, sm_tupT, sm_seqL, sm_seqT, sm_lsL, sm_rng1, sm_rng2, sm_rng3, sm_app, sm_rep1, sm_set1, sm_setN, sm_setC, sm_mixN, sm_mixC, sm_isi, sm_isi2, sm_item0, sm_item1, sm_iset0, sm_iset1, wipe_n, wipe_c, List.set_cons_zero, List.set_cons_succ, List.getElem?_cons_zero, List.getElem?_cons_succ, List.length_cons, List.length_nil, Nat.zero_le, Bool.false_eq_true, if_true, if_false, Bool.not_true, Bool.not_false, Bool.not_not]
  refine sm_gcdB ?_
  (try simp only [e_var, e_rd, e_sr, e_cst, e_op1, e_op2, e_op3, e_chain, e_band, e_bor, e_ife, e_anil, e_acons, e_lst, e_tup, e_bi, e_call, e_calls, e_sget, ls_l, gV_sh, gR_sh, gR_br, gR_ow, gS_sh, gS_br, gO_ow, gF_ow, gF_sh, sm_some, w_asg1, w_asg, w_asgO, w_par, w_ret, w_drop, w_aug, w_mut, w_seti, w_augi, w_pop, w_frz, w_sset, w_ife, w_skip, w_brk, w_cont, w_seq, kq_ret, kq_bk, kq_ct, kl_bk, kl_ret, br_b, decide_eq_true_eq, decide_eq_false_iff_not, Bool.not_eq_true', Bool.not_eq_false', reduceCtorEq, true_implies, false_implies, forall_const, not_true_eq_false, not_false_eq_true, and_true, true_and, implies_true, sm_add, sm_addI, sm_addL, sm_addT, sm_cat, sm_sub, sm_mul, sm_div, sm_mod, sm_pow, sm_neg, sm_lt, sm_le, sm_gt, sm_ge, sm_eqI, sm_neI, sm_eqB, sm_neB, sm_isN, sm_isNotN, sm_truI, sm_truB, sm_truN, sm_truL, sm_truT, sm_not, sm_ixL, sm_ixT, sm_at0, sm_at1, sm_at2, sm_lenL, sm_lenT, sm_abs, sm_int, sm_intB, sm_max2, sm_min2, sm_listL, sm_listT, sm_tupL, sm_tupT, sm_seqL, sm_seqT, sm_lsL, sm_rng1, sm_rng2, sm_rng3, sm_app, sm_rep1, sm_set1, sm_setN, sm_setC, sm_mixN, sm_mixC, sm_isi, sm_isi2, sm_item0, sm_item1, sm_iset0, sm_iset1, wipe_n, wipe_c, List.set_cons_zero, List.set_cons_succ, List.getElem?_cons_zero, List.getElem?_cons_succ, List.length_cons, List.length_nil, Nat.zero_le, Bool.false_eq_true, if_true, if_false, Bool.not_true, Bool.not_false, Bool.not_not])
  refine ⟨fun c1 => sm_gcdB ?_, fun c1 => ?_⟩
  · obtain ⟨l', hl'⟩ := Nat.gcd_dvd_left l b
    have hgb := Nat.gcd_dvd_right l b
    have hg2 : 2 ≤ Nat.gcd l b := by omega
    have hgl := Nat.gcd_le_left b (show 0 < l by omega)
    generalize Nat.gcd l b = g at *
    have ed : (l : Int) / (g : Int) = (l' : Nat) := by
      rw [← Int.natCast_ediv, hl', Nat.mul_div_cancel_left _ (by omega)]
    simp only [e_var, e_rd, e_sr, e_cst, e_op1, e_op2, e_op3, e_chain, e_band, e_bor, e_ife, e_anil, e_acons, e_lst, e_tup, e_bi, e_call, e_calls, e_sget, ls_l, gV_sh, gR_sh, gR_br, gR_ow, gS_sh, gS_br, gO_ow, gF_ow, gF_sh, sm_some, w_asg1, w_asg, w_asgO, w_par, w_ret, w_drop, w_aug, w_mut, w_seti, w_augi, w_pop, w_frz, w_sset, w_ife, w_skip, w_brk, w_cont, w_seq, kq_ret, kq_bk, kq_ct, kl_bk, kl_ret, br_b, decide_eq_true_eq, decide_eq_false_iff_not, Bool.not_eq_true', Bool.not_eq_false', reduceCtorEq, true_implies, false_implies, forall_const, not_true_eq_false, not_false_eq_true, and_true, true_and, implies_true, sm_add, sm_addI, sm_addL, sm_addT, sm_cat, sm_sub, sm_mul, sm_div, sm_mod, sm_pow, sm_neg, sm_lt, sm_le, sm_gt, sm_ge, sm_eqI, sm_neI, sm_eqB, sm_neB, sm_isN, sm_isNotN, sm_truI, sm_truB, sm_truN, sm_truL, sm_truT, sm_not, sm_ixL, sm_ixT, sm_at0, sm_at1, sm_at2, sm_lenL, sm_lenT, sm_abs, sm_int, sm_intB, sm_max2, sm_min2, sm_listL, sm_listT, sm_tupL, sm_tupT, sm_seqL, sm_seqT, sm_lsL, sm_rng1, sm_rng2, sm_rng3, sm_app, sm_rep1, sm_set1, sm_setN, sm_setC, sm_mixN, sm_mixC, sm_isi, sm_isi2, sm_item0, sm_item1, sm_iset0, sm_iset1, wipe_n, wipe_c, List.set_cons_zero, List.set_cons_succ, List.getElem?_cons_zero, List.getElem?_cons_succ, List.length_cons, List.length_nil, Nat.zero_le, Bool.false_eq_true, if_true, if_false, Bool.not_true, Bool.not_false, Bool.not_not, ed]
    refine ⟨div_sm, l' + 1, ?_, l', u * g, rfl, rfl, by rw [hm, hl']; grind, ⟨K + 1, ?_, ?_⟩, rfl⟩
    · have : 2 * l' ≤ g * l' := Nat.mul_le_mul_right _ hg2
      omega
    · rw [Nat.pow_succ]; exact Nat.mul_le_mul hK1 hg2
    · rw [Nat.pow_succ]; exact Nat.mul_dvd_mul hK2 hgb
  · have hcop : Nat.Coprime l b := by
      have : 0 < Nat.gcd l b := Nat.gcd_pos_of_pos_left _ hl
      unfold Nat.Coprime; omega
    have cop : IsCop b q l u := ⟨hm, hcop, K, hK1, hK2⟩
    rw [kq_nx]
    simp only [e_var, e_rd, e_sr, e_cst, e_op1, e_op2, e_op3, e_chain, e_band, e_bor, e_ife, e_anil, e_acons, e_lst, e_tup, e_bi, e_call, e_calls, e_sget, ls_l, gV_sh, gR_sh, gR_br, gR_ow, gS_sh, gS_br, gO_ow, gF_ow, gF_sh, sm_some, w_asg1, w_asg, w_asgO, w_par, w_ret, w_drop, w_aug, w_mut, w_seti, w_augi, w_pop, w_frz, w_sset, w_ife, w_skip, w_brk, w_cont, w_seq, kq_ret, kq_bk, kq_ct, kl_bk, kl_ret, br_b, decide_eq_true_eq, decide_eq_false_iff_not, Bool.not_eq_true', Bool.not_eq_false', reduceCtorEq, true_implies, false_implies, forall_const, not_true_eq_false, not_false_eq_true, and_true, true_and, implies_true, sm_add, sm_addI, sm_addL, sm_addT, sm_cat, sm_sub, sm_mul, sm_div, sm_mod, sm_pow, sm_neg, sm_lt, sm_le, sm_gt, sm_ge, sm_eqI, sm_neI, sm_eqB, sm_neB, sm_isN, sm_isNotN, sm_truI, sm_truB, sm_truN, sm_truL, sm_truT, sm_not, sm_ixL, sm_ixT, sm_at0, sm_at1, sm_at2, sm_lenL, sm_lenT, sm_abs, sm_int, sm_intB, sm_max2, sm_min2, sm_listL, sm_listT, sm_tupL, sm_tupT, sm_seqL, sm_seqT, sm_lsL, sm_rng1, sm_rng2, sm_rng3, sm_app, sm_rep1, sm_set1, sm_setN, sm_setC, sm_mixN, sm_mixC, sm_isi, sm_isi2, sm_item0, sm_item1, sm_iset0, sm_iset1, wipe_n, wipe_c, List.set_cons_zero, List.set_cons_succ, List.getElem?_cons_zero, List.getElem?_cons_succ, List.length_cons, List.length_nil, Nat.zero_le, Bool.false_eq_true, if_true, if_false, Bool.not_true, Bool.not_false, Bool.not_not, kq_nx]
    obtain ⟨k0, hk0, hmin⟩ := least (P := fun k => u ∣ b ^ k) ⟨K, hK2⟩
    have hk0K : k0 ≤ K := by
      apply Nat.le_of_not_lt
      intro c
      exact hmin K c hK2
    have hK60 : K < 60 := by
      have : (2 : Nat) ^ K < 2 ^ 60 := by omega
      exact (Nat.pow_lt_pow_iff_right (by decide)).mp this
    refine W.whl (fun m env st => ∃ k : Nat, env = [.sh (.int q), .sh (.int b), .sh (.int l), .sh (.int k)] ∧ st = none ∧ k ≤ k0 ∧ m = k0 - k) k0 ⟨0, rfl, rfl, Nat.zero_le _, rfl⟩ ?_
    rintro m env st ⟨k, rfl, rfl, hk, rfl⟩
    have sb : Sz 10 (b : Int) := by unfold Sz; omega
    simp only [e_var, e_rd, e_sr, e_cst, e_op1, e_op2, e_op3, e_chain, e_band, e_bor, e_ife, e_anil, e_acons, e_lst, e_tup, e_bi, e_call, e_calls, e_sget, ls_l, gV_sh, gR_sh, gR_br, gR_ow, gS_sh, gS_br, gO_ow, gF_ow, gF_sh, sm_some, w_asg1, w_asg, w_asgO, w_par, w_ret, w_drop, w_aug, w_mut, w_seti, w_augi, w_pop, w_frz, w_sset, w_ife, w_skip, w_brk, w_cont, w_seq, kq_ret, kq_bk, kq_ct, kl_bk, kl_ret, br_b, decide_eq_true_eq, decide_eq_false_iff_not, Bool.not_eq_true', Bool.not_eq_false', reduceCtorEq, true_implies, false_implies, forall_const, not_true_eq_false, not_false_eq_true, and_true, true_and, implies_true, sm_add, sm_addI, sm_addL, sm_addT, sm_cat, sm_sub, sm_mul, sm_div, sm_mod, sm_pow, sm_neg, sm_lt, sm_le, sm_gt, sm_ge, sm_eqI, sm_neI, sm_eqB, sm_neB, sm_isN, sm_isNotN, sm_truI, sm_truB, sm_truN, sm_truL, sm_truT, sm_not, sm_ixL, sm_ixT, sm_at0, sm_at1, sm_at2, sm_lenL, sm_lenT, sm_abs, sm_int, sm_intB, sm_max2, sm_min2, sm_listL, sm_listT, sm_tupL, sm_tupT, sm_seqL, sm_seqT, sm_lsL, sm_rng1, sm_rng2, sm_rng3, sm_app, sm_rep1, sm_set1, sm_setN, sm_setC, sm_mixN, sm_mixC, sm_isi, sm_isi2, sm_item0, sm_item1, sm_iset0, sm_iset1, wipe_n, wipe_c, List.set_cons_zero, List.set_cons_succ, List.getElem?_cons_zero, List.getElem?_cons_succ, List.length_cons, List.length_nil, Nat.zero_le, Bool.false_eq_true, if_true, if_false, Bool.not_true, Bool.not_false, Bool.not_not]
    refine sm_power (n := k) (k := 10) rfl sb (by omega) (by omega) ?_
    have key : (((l : Int) * (b : Int) ^ k) % (q : Int) = 0) ↔ u ∣ b ^ k := by
      rw [← Int.natCast_pow, ← Int.natCast_mul, md_iff, hm]
      exact Nat.mul_dvd_mul_iff_left hl
    (try simp only [e_var, e_rd, e_sr, e_cst, e_op1, e_op2, e_op3, e_chain, e_band, e_bor, e_ife, e_anil, e_acons, e_lst, e_tup, e_bi, e_call, e_calls, e_sget, ls_l, gV_sh, gR_sh, gR_br, gR_ow, gS_sh, gS_br, gO_ow, gF_ow, gF_sh, sm_some, w_asg1, w_asg, w_asgO, w_par, w_ret, w_drop, w_aug, w_mut, w_seti, w_augi, w_pop, w_frz, w_sset, w_ife, w_skip, w_brk, w_cont, w_seq, kq_ret, kq_bk, kq_ct, kl_bk, kl_ret, br_b, decide_eq_true_eq, decide_eq_false_iff_not, Bool.not_eq_true', Bool.not_eq_false', reduceCtorEq, true_implies, false_implies, forall_const, not_true_eq_false, not_false_eq_true, and_true, true_and, implies_true, sm_add, sm_addI, sm_addL, sm_addT, sm_cat, sm_sub, sm_mul, sm_div, sm_mod, sm_pow, sm_neg, sm_lt, sm_le, sm_gt, sm_ge, sm_eqI, sm_neI, sm_eqB, sm_neB, sm_isN, sm_isNotN, sm_truI, sm_truB, sm_truN, sm_truL, sm_truT, sm_not, sm_ixL, sm_ixT, sm_at0, sm_at1, sm_at2, sm_lenL, sm_lenT, sm_abs, sm_int, sm_intB, sm_max2, sm_min2, sm_listL, sm_listT, sm_tupL, sm_tupT, sm_seqL, sm_seqT, sm_lsL, sm_rng1, sm_rng2, sm_rng3, sm_app, sm_rep1, sm_set1, sm_setN, sm_setC, sm_mixN, sm_mixC, sm_isi, sm_isi2, sm_item0, sm_item1, sm_iset0, sm_iset1, wipe_n, wipe_c, List.set_cons_zero, List.set_cons_succ, List.getElem?_cons_zero, List.getElem?_cons_succ, List.length_cons, List.length_nil, Nat.zero_le, Bool.false_eq_true, if_true, if_false, Bool.not_true, Bool.not_false, Bool.not_not, key])
    refine ⟨mul_ok (k := 60) (m := 601) (by unfold Sz; omega) ((sb.pow k).mono (by omega)), by omega, fun c => ⟨k0 - (k + 1), ?_, k + 1, rfl, rfl, ?_, rfl⟩, fun c => ?_⟩
    · have : k ≠ k0 := by rintro rfl; exact c hk0
      omega
    · have : k ≠ k0 := by rintro rfl; exact c hk0
      omega
    · have : k = k0 := by
        apply Nat.le_antisymm hk
        apply Nat.le_of_not_lt
        intro c'
        exact hmin k c' c
      subst this
      rw [kq_nx]
      simp only [e_var, e_rd, e_sr, e_cst, e_op1, e_op2, e_op3, e_chain, e_band, e_bor, e_ife, e_anil, e_acons, e_lst, e_tup, e_bi, e_call, e_calls, e_sget, ls_l, gV_sh, gR_sh, gR_br, gR_ow, gS_sh, gS_br, gO_ow, gF_ow, gF_sh, sm_some, w_asg1, w_asg, w_asgO, w_par, w_ret, w_drop, w_aug, w_mut, w_seti, w_augi, w_pop, w_frz, w_sset, w_ife, w_skip, w_brk, w_cont, w_seq, kq_ret, kq_bk, kq_ct, kl_bk, kl_ret, br_b, decide_eq_true_eq, decide_eq_false_iff_not, Bool.not_eq_true', Bool.not_eq_false', reduceCtorEq, true_implies, false_implies, forall_const, not_true_eq_false, not_false_eq_true, and_true, true_and, implies_true, sm_add, sm_addI, sm_addL, sm_addT, sm_cat, sm_sub, sm_mul, sm_div, sm_mod, sm_pow, sm_neg, sm_lt, sm_le, sm_gt, sm_ge, sm_eqI, sm_neI, sm_eqB, sm_neB, sm_isN, sm_isNotN, sm_truI, sm_truB, sm_truN, sm_truL, sm_truT, sm_not, sm_ixL, sm_ixT, sm_at0, sm_at1, sm_at2, sm_lenL, sm_lenT, sm_abs, sm_int, sm_intB, sm_max2, sm_min2, sm_listL, sm_listT, sm_tupL, sm_tupT, sm_seqL, sm_seqT, sm_lsL, sm_rng1, sm_rng2, sm_rng3, sm_app, sm_rep1, sm_set1, sm_setN, sm_setC, sm_mixN, sm_mixC, sm_isi, sm_isi2, sm_item0, sm_item1, sm_iset0, sm_iset1, wipe_n, wipe_c, List.set_cons_zero, List.set_cons_succ, List.getElem?_cons_zero, List.getElem?_cons_succ, List.length_cons, List.length_nil, Nat.zero_le, Bool.false_eq_true, if_true, if_false, Bool.not_true, Bool.not_false, Bool.not_not]
      refine sm_order_of rfl rfl hl (by omega) hcop.symm fun d hd => ?_
      (try simp only [e_var, e_rd, e_sr, e_cst, e_op1, e_op2, e_op3, e_chain, e_band, e_bor, e_ife, e_anil, e_acons, e_lst, e_tup, e_bi, e_call, e_calls, e_sget, ls_l, gV_sh, gR_sh, gR_br, gR_ow, gS_sh, gS_br, gO_ow, gF_ow, gF_sh, sm_some, w_asg1, w_asg, w_asgO, w_par, w_ret, w_drop, w_aug, w_mut, w_seti, w_augi, w_pop, w_frz, w_sset, w_ife, w_skip, w_brk, w_cont, w_seq, kq_ret, kq_bk, kq_ct, kl_bk, kl_ret, br_b, decide_eq_true_eq, decide_eq_false_iff_not, Bool.not_eq_true', Bool.not_eq_false', reduceCtorEq, true_implies, false_implies, forall_const, not_true_eq_false, not_false_eq_true, and_true, true_and, implies_true, sm_add, sm_addI, sm_addL, sm_addT, sm_cat, sm_sub, sm_mul, sm_div, sm_mod, sm_pow, sm_neg, sm_lt, sm_le, sm_gt, sm_ge, sm_eqI, sm_neI, sm_eqB, sm_neB, sm_isN, sm_isNotN, sm_truI, sm_truB, sm_truN, sm_truL, sm_truT, sm_not, sm_ixL, sm_ixT, sm_at0, sm_at1, sm_at2, sm_lenL, sm_lenT, sm_abs, sm_int, sm_intB, sm_max2, sm_min2, sm_listL, sm_listT, sm_tupL, sm_tupT, sm_seqL, sm_seqT, sm_lsL, sm_rng1, sm_rng2, sm_rng3, sm_app, sm_rep1, sm_set1, sm_setN, sm_setC, sm_mixN, sm_mixC, sm_isi, sm_isi2, sm_item0, sm_item1, sm_iset0, sm_iset1, wipe_n, wipe_c, List.set_cons_zero, List.set_cons_succ, List.getElem?_cons_zero, List.getElem?_cons_succ, List.length_cons, List.length_nil, Nat.zero_le, Bool.false_eq_true, if_true, if_false, Bool.not_true, Bool.not_false, Bool.not_not])
      exact ⟨by decide, l, u, k, d, rfl, cop, ⟨hk0, hmin⟩, hd⟩
noncomputable def fs_lengths_of : List D → Option D := FV 2 4 (z_lengths_of fs_power fs_order_of)
theorem sm_lengths_of {i j : Int} {q b : Nat} {Q : D → Prop} (ei : i = q) (ej : j = b) (hq : 1 ≤ q) (hq' : q < 1152921504606846976) (hb : 1 ≤ b) (hb' : b < 1024) (qq : ∀ l u k d : Nat, IsCop b q l u → Lk b u k → IsOrd b l d → Q (.tuple [.int k, .int d])) : Sm (fs_lengths_of [.int i, .int j]) Q := by
  subst ei ej
  exact FV.sm rfl ((w_lengths_of hq hq' hb hb').mono fun o ⟨l, u, k, d, e, h1, h2, h3⟩ => ⟨_, _, e, qq l u k d h1 h2 h3⟩)

/-! ### Lucas rows by a number -/
def entGo (p q m : Int) : Nat → Int → Int → Int → Option Int
  | 0, _, _, _ => none
  | f + 1, a, b, n => if a = 0 then some n else entGo p q m f b ((p * b - q * a) % m) (n + 1)
def rndGo (p q m : Int) : Nat → Int → Int → Int → Option Int
  | 0, _, _, _ => none
  | f + 1, a, b, n => if a = 0 ∧ b = 1 % m then some n else rndGo p q m f b ((p * b - q * a) % m) (n + 1)
theorem w_entry {p q m r : Int} {f : Nat} (hm : 0 < m) (hm' : m < 1152921504606846976) (hp : Sz 60 p) (hq : Sz 60 q) (h : entGo p q m f (1 % m) (p % m) 1 = some r) : W z_entry [.sh (.int p), .sh (.int q), .sh (.int m), .no, .no, .no] none (fun o => o = .ret (.int r) none) := by
  unfold z_entry
  simp only [e_var, e_rd, e_sr, e_cst, e_op1, e_op2, e_op3, e_chain, e_band, e_bor, e_ife, e_anil, e_acons, e_lst, e_tup, e_bi, e_call, e_calls, e_sget, ls_l, gV_sh, gR_sh, gR_br, gR_ow, gS_sh, gS_br, gO_ow, gF_ow, gF_sh, sm_some, w_asg1, w_asg, w_asgO, w_par, w_ret, w_drop, w_aug, w_mut, w_seti, w_augi, w_pop, w_frz, w_sset, w_ife, w_skip, w_brk, w_cont, w_seq, kq_ret, kq_bk, kq_ct, kl_bk, kl_ret, br_b, decide_eq_true_eq, decide_eq_false_iff_not, Bool.not_eq_true', Bool.not_eq_false', reduceCtorEq, true_implies, false_implies, forall_const, not_true_eq_false, not_false_eq_true, and_true, true_and, implies_true, sm_add, sm_addI, sm_addL, sm_addT, sm_cat, sm_sub, sm_mul, sm_div, sm_mod, sm_pow, sm_neg, sm_lt, sm_le, sm_gt, sm_ge, sm_eqI, sm_neI, sm_eqB, sm_neB, sm_isN, sm_isNotN, sm_truI, sm_truB, sm_truN, sm_truL, sm_truT, sm_not, sm_ixL, sm_ixT, sm_at0, sm_at1, sm_at2, sm_lenL, sm_lenT, sm_abs, sm_int, sm_intB, sm_max2, sm_min2, sm_listL, sm_listT, sm_tupL, sm_tupT, sm_seqL, sm_seqT, sm_lsL, sm_rng1, sm_rng2, sm_rng3, sm_app, sm_rep1, sm_set1, sm_setN, sm_setC, sm_mixN, sm_mixC, sm_isi, sm_isi2, sm_item0, sm_item1, sm_iset0, sm_iset1, wipe_n, wipe_c, List.set_cons_zero, List.set_cons_succ, List.getElem?_cons_zero, List.getElem?_cons_succ, List.length_cons, List.length_nil, Nat.zero_le, Bool.false_eq_true, if_true, if_false, Bool.not_true, Bool.not_false, Bool.not_not, kq_nx]
  refine ⟨hm, hm, ?_⟩
  refine W.whl (fun k env st => ∃ a b n : Int, env = [.sh (.int p), .sh (.int q), .sh (.int m), .sh (.int a), .sh (.int b), .sh (.int n)] ∧ st = none ∧ Sz 60 a ∧ Sz 60 b ∧ entGo p q m k a b n = some r) f ⟨1 % m, p % m, 1, rfl, rfl, Sz.mod hm (by unfold Sz; omega), Sz.mod hm (by unfold Sz; omega), h⟩ ?_
  rintro k env st ⟨a, b, n, rfl, rfl, ha, hb, h⟩
  cases k with
  | zero => cases h
  | succ k =>
    unfold entGo at h
    simp only [e_var, e_rd, e_sr, e_cst, e_op1, e_op2, e_op3, e_chain, e_band, e_bor, e_ife, e_anil, e_acons, e_lst, e_tup, e_bi, e_call, e_calls, e_sget, ls_l, gV_sh, gR_sh, gR_br, gR_ow, gS_sh, gS_br, gO_ow, gF_ow, gF_sh, sm_some, w_asg1, w_asg, w_asgO, w_par, w_ret, w_drop, w_aug, w_mut, w_seti, w_augi, w_pop, w_frz, w_sset, w_ife, w_skip, w_brk, w_cont, w_seq, kq_ret, kq_bk, kq_ct, kl_bk, kl_ret, br_b, decide_eq_true_eq, decide_eq_false_iff_not, Bool.not_eq_true', Bool.not_eq_false', reduceCtorEq, true_implies, false_implies, forall_const, not_true_eq_false, not_false_eq_true, and_true, true_and, implies_true, sm_add, sm_addI, sm_addL, sm_addT, sm_cat, sm_sub, sm_mul, sm_div, sm_mod, sm_pow, sm_neg, sm_lt, sm_le, sm_gt, sm_ge, sm_eqI, sm_neI, sm_eqB, sm_neB, sm_isN, sm_isNotN, sm_truI, sm_truB, sm_truN, sm_truL, sm_truT, sm_not, sm_ixL, sm_ixT, sm_at0, sm_at1, sm_at2, sm_lenL, sm_lenT, sm_abs, sm_int, sm_intB, sm_max2, sm_min2, sm_listL, sm_listT, sm_tupL, sm_tupT, sm_seqL, sm_seqT, sm_lsL, sm_rng1, sm_rng2, sm_rng3, sm_app, sm_rep1, sm_set1, sm_setN, sm_setC, sm_mixN, sm_mixC, sm_isi, sm_isi2, sm_item0, sm_item1, sm_iset0, sm_iset1, wipe_n, wipe_c, List.set_cons_zero, List.set_cons_succ, List.getElem?_cons_zero, List.getElem?_cons_succ, List.length_cons, List.length_nil, Nat.zero_le, Bool.false_eq_true, if_true, if_false, Bool.not_true, Bool.not_false, Bool.not_not]
    refine ⟨fun c => ?_, fun c => ?_⟩
    · rw [if_neg c] at h
      exact ⟨mul_ok hp hb, mul_ok hq ha, hm, k, by omega, _, _, _, rfl, rfl, hb, Sz.mod hm (by unfold Sz; omega), h⟩
    · rw [if_pos c] at h
      rw [kq_nx]
      simp only [e_var, e_rd, e_sr, e_cst, e_op1, e_op2, e_op3, e_chain, e_band, e_bor, e_ife, e_anil, e_acons, e_lst, e_tup, e_bi, e_call, e_calls, e_sget, ls_l, gV_sh, gR_sh, gR_br, gR_ow, gS_sh, gS_br, gO_ow, gF_ow, gF_sh, sm_some, w_asg1, w_asg, w_asgO, w_par, w_ret, w_drop, w_aug, w_mut, w_seti, w_augi, w_pop, w_frz, w_sset, w_ife, w_skip, w_brk, w_cont, w_seq, kq_ret, kq_bk, kq_ct, kl_bk, kl_ret, br_b, decide_eq_true_eq, decide_eq_false_iff_not, Bool.not_eq_true', Bool.not_eq_false', reduceCtorEq, true_implies, false_implies, forall_const, not_true_eq_false, not_false_eq_true, and_true, true_and, implies_true, sm_add, sm_addI, sm_addL, sm_addT, sm_cat, sm_sub, sm_mul, sm_div, sm_mod, sm_pow, sm_neg, sm_lt, sm_le, sm_gt, sm_ge, sm_eqI, sm_neI, sm_eqB, sm_neB, sm_isN, sm_isNotN, sm_truI, sm_truB, sm_truN, sm_truL, sm_truT, sm_not, sm_ixL, sm_ixT, sm_at0, sm_at1, sm_at2, sm_lenL, sm_lenT, sm_abs, sm_int, sm_intB, sm_max2, sm_min2, sm_listL, sm_listT, sm_tupL, sm_tupT, sm_seqL, sm_seqT, sm_lsL, sm_rng1, sm_rng2, sm_rng3, sm_app, sm_rep1, sm_set1, sm_setN, sm_setC, sm_mixN, sm_mixC, sm_isi, sm_isi2, sm_item0, sm_item1, sm_iset0, sm_iset1, wipe_n, wipe_c, List.set_cons_zero, List.set_cons_succ, List.getElem?_cons_zero, List.getElem?_cons_succ, List.length_cons, List.length_nil, Nat.zero_le, Bool.false_eq_true, if_true, if_false, Bool.not_true, Bool.not_false, Bool.not_not]
      cases h
      rfl
noncomputable def fs_entry : List D → Option D := FV 3 6 z_entry
theorem sm_entry {p q m r : Int} {f : Nat} {Q : D → Prop} (hm : 0 < m) (hm' : m < 1152921504606846976) (hp : Sz 60 p) (hq : Sz 60 q) (h : entGo p q m f (1 % m) (p % m) 1 = some r) (qq : Q (.int r)) : Sm (fs_entry [.int p, .int q, .int m]) Q := FV.sm1 rfl (w_entry hm hm' hp hq h) qq
theorem w_round_of {p q m r : Int} {f : Nat} (hm : 0 < m) (hm' : m < 1152921504606846976) (hp : Sz 60 p) (hq : Sz 60 q) (h : rndGo p q m f (1 % m) (p % m) 1 = some r) : W z_round_of [.sh (.int p), .sh (.int q), .sh (.int m), .no, .no, .no] none (fun o => o = .ret (.int r) none) := by
  unfold z_round_of
  simp only [e_var, e_rd, e_sr, e_cst, e_op1, e_op2, e_op3, e_chain, e_band, e_bor, e_ife, e_anil, e_acons, e_lst, e_tup, e_bi, e_call, e_calls, e_sget, ls_l, gV_sh, gR_sh, gR_br, gR_ow, gS_sh, gS_br, gO_ow, gF_ow, gF_sh, sm_some, w_asg1, w_asg, w_asgO, w_par, w_ret, w_drop, w_aug, w_mut, w_seti, w_augi, w_pop, w_frz, w_sset, w_ife, w_skip, w_brk, w_cont, w_seq, kq_ret, kq_bk, kq_ct, kl_bk, kl_ret, br_b, decide_eq_true_eq, decide_eq_false_iff_not, Bool.not_eq_true', Bool.not_eq_false', reduceCtorEq, true_implies, false_implies, forall_const, not_true_eq_false, not_false_eq_true, and_true, true_and, implies_true, sm_add, sm_addI, sm_addL, sm_addT, sm_cat, sm_sub, sm_mul, sm_div, sm_mod, sm_pow, sm_neg, sm_lt, sm_le, sm_gt, sm_ge, sm_eqI, sm_neI, sm_eqB, sm_neB, sm_isN, sm_isNotN, sm_truI, sm_truB, sm_truN, sm_truL, sm_truT, sm_not, sm_ixL, sm_ixT, sm_at0, sm_at1, sm_at2, sm_lenL, sm_lenT, sm_abs, sm_int, sm_intB, sm_max2, sm_min2, sm_listL, sm_listT, sm_tupL, sm_tupT, sm_seqL, sm_seqT, sm_lsL, sm_rng1, sm_rng2, sm_rng3, sm_app, sm_rep1, sm_set1, sm_setN, sm_setC, sm_mixN, sm_mixC, sm_isi, sm_isi2, sm_item0, sm_item1, sm_iset0, sm_iset1, wipe_n, wipe_c, List.set_cons_zero, List.set_cons_succ, List.getElem?_cons_zero, List.getElem?_cons_succ, List.length_cons, List.length_nil, Nat.zero_le, Bool.false_eq_true, if_true, if_false, Bool.not_true, Bool.not_false, Bool.not_not, kq_nx]
  refine ⟨hm, hm, ?_⟩
  refine W.whl (fun k env st => ∃ a b n : Int, env = [.sh (.int p), .sh (.int q), .sh (.int m), .sh (.int a), .sh (.int b), .sh (.int n)] ∧ st = none ∧ Sz 60 a ∧ Sz 60 b ∧ rndGo p q m k a b n = some r) f ⟨1 % m, p % m, 1, rfl, rfl, Sz.mod hm (by unfold Sz; omega), Sz.mod hm (by unfold Sz; omega), h⟩ ?_
  rintro k env st ⟨a, b, n, rfl, rfl, ha, hb, h⟩
  cases k with
  | zero => cases h
  | succ k =>
    unfold rndGo at h
    have go : ¬ (a = 0 ∧ b = 1 % m) → mulOk p b = true ∧ mulOk q a = true ∧ 0 < m ∧ ∃ k', k' < k + 1 ∧ ∃ a' b' n' : Int, ([.sh (.int p), .sh (.int q), .sh (.int m), .sh (.int b), .sh (.int ((p * b - q * a) % m)), .sh (.int (n + 1))] : Z.Env) = [.sh (.int p), .sh (.int q), .sh (.int m), .sh (.int a'), .sh (.int b'), .sh (.int n')] ∧ (none : SD) = none ∧ Sz 60 a' ∧ Sz 60 b' ∧ rndGo p q m k' a' b' n' = some r := fun c => by
      rw [if_neg c] at h
      exact ⟨mul_ok hp hb, mul_ok hq ha, hm, k, by omega, _, _, _, rfl, rfl, hb, Sz.mod hm (by unfold Sz; omega), h⟩
    simp only [e_var, e_rd, e_sr, e_cst, e_op1, e_op2, e_op3, e_chain, e_band, e_bor, e_ife, e_anil, e_acons, e_lst, e_tup, e_bi, e_call, e_calls, e_sget, ls_l, gV_sh, gR_sh, gR_br, gR_ow, gS_sh, gS_br, gO_ow, gF_ow, gF_sh, sm_some, w_asg1, w_asg, w_asgO, w_par, w_ret, w_drop, w_aug, w_mut, w_seti, w_augi, w_pop, w_frz, w_sset, w_ife, w_skip, w_brk, w_cont, w_seq, kq_ret, kq_bk, kq_ct, kl_bk, kl_ret, br_b, decide_eq_true_eq, decide_eq_false_iff_not, Bool.not_eq_true', Bool.not_eq_false', reduceCtorEq, true_implies, false_implies, forall_const, not_true_eq_false, not_false_eq_true, and_true, true_and, implies_true, sm_add, sm_addI, sm_addL, sm_addT, sm_cat, sm_sub, sm_mul, sm_div, sm_mod, sm_pow, sm_neg, sm_lt, sm_le, sm_gt, sm_ge, sm_eqI, sm_neI, sm_eqB, sm_neB, sm_isN, sm_isNotN, sm_truI, sm_truB, sm_truN, sm_truL, sm_truT, sm_not, sm_ixL, sm_ixT, sm_at0, sm_at1, sm_at2, sm_lenL, sm_lenT, sm_abs, sm_int, sm_intB, sm_max2, sm_min2, sm_listL, sm_listT, sm_tupL, sm_tupT, sm_seqL, sm_seqT, sm_lsL, sm_rng1, sm_rng2, sm_rng3, sm_app, sm_rep1, sm_set1, sm_setN, sm_setC, sm_mixN, sm_mixC, sm_isi, sm_isi2, sm_item0, sm_item1, sm_iset0, sm_iset1, wipe_n, wipe_c, List.set_cons_zero, List.set_cons_succ, List.getElem?_cons_zero, List.getElem?_cons_succ, List.length_cons, List.length_nil, Nat.zero_le, Bool.false_eq_true, if_true, if_false, Bool.not_true, Bool.not_false, Bool.not_not]
    refine ⟨fun c => go fun x => c x.1, fun c => ⟨hm, fun c2 => go fun x => c2 x.2, fun c2 => ?_⟩⟩
    rw [if_pos ⟨c, c2⟩] at h
    rw [kq_nx]
    simp only [e_var, e_rd, e_sr, e_cst, e_op1, e_op2, e_op3, e_chain, e_band, e_bor, e_ife, e_anil, e_acons, e_lst, e_tup, e_bi, e_call, e_calls, e_sget, ls_l, gV_sh, gR_sh, gR_br, gR_ow, gS_sh, gS_br, gO_ow, gF_ow, gF_sh, sm_some, w_asg1, w_asg, w_asgO, w_par, w_ret, w_drop, w_aug, w_mut, w_seti, w_augi, w_pop, w_frz, w_sset, w_ife, w_skip, w_brk, w_cont, w_seq, kq_ret, kq_bk, kq_ct, kl_bk, kl_ret, br_b, decide_eq_true_eq, decide_eq_false_iff_not, Bool.not_eq_true', Bool.not_eq_false', reduceCtorEq, true_implies, false_implies, forall_const, not_true_eq_false, not_false_eq_true, and_true, true_and, implies_true, sm_add, sm_addI, sm_addL, sm_addT, sm_cat, sm_sub, sm_mul, sm_div, sm_mod, sm_pow, sm_neg, sm_lt, sm_le, sm_gt, sm_ge, sm_eqI, sm_neI, sm_eqB, sm_neB, sm_isN, sm_isNotN, sm_truI, sm_truB, sm_truN, sm_truL, sm_truT, sm_not, sm_ixL, sm_ixT, sm_at0, sm_at1, sm_at2, sm_lenL, sm_lenT, sm_abs, sm_int, sm_intB, sm_max2, sm_min2, sm_listL, sm_listT, sm_tupL, sm_tupT, sm_seqL, sm_seqT, sm_lsL, sm_rng1, sm_rng2, sm_rng3, sm_app, sm_rep1, sm_set1, sm_setN, sm_setC, sm_mixN, sm_mixC, sm_isi, sm_isi2, sm_item0, sm_item1, sm_iset0, sm_iset1, wipe_n, wipe_c, List.set_cons_zero, List.set_cons_succ, List.getElem?_cons_zero, List.getElem?_cons_succ, List.length_cons, List.length_nil, Nat.zero_le, Bool.false_eq_true, if_true, if_false, Bool.not_true, Bool.not_false, Bool.not_not]
    cases h
    rfl
noncomputable def fs_round_of : List D → Option D := FV 3 6 z_round_of
theorem sm_round_of {p q m r : Int} {f : Nat} {Q : D → Prop} (hm : 0 < m) (hm' : m < 1152921504606846976) (hp : Sz 60 p) (hq : Sz 60 q) (h : rndGo p q m f (1 % m) (p % m) 1 = some r) (qq : Q (.int r)) : Sm (fs_round_of [.int p, .int q, .int m]) Q := FV.sm1 rfl (w_round_of hm hm' hp hq h) qq
end ZC
namespace ZC
open PySem PySem.Spec PyProof.Rows L2 Z
def z_expansion  : ZS := (.seq (.par [(6, false), (7, false)] (.acons (.op2 dDiv (.rd 0) (.rd 1)) (.acons (.op2 dMod (.rd 0) (.rd 1)) .anil))) 
  (.seq (.asgO 3 (.cst (.dict []))) 
  (.seq (.asgO 4 (.lst .anil)) 
  (.seq (.whl (.op2 dNotInD (.rd 7) (.rd 3)) 
  (.seq (.seti 3 dSetD (.bi dLen (.acons (.rd 4) .anil)) (.var 7)) 
  (.seq (.mut 4 dApp (.op2 dDiv (.op2 dMul (.rd 7) (.rd 2)) (.rd 1))) 
  (.asg (.one 7) (.op2 dMod (.op2 dMul (.rd 7) (.rd 2)) (.rd 1)))))) 
  (.seq (.asg (.one 5) (.op2 dGetD (.rd 3) (.rd 7))) 
  (.ret (.tup (.acons (.var 6) (.acons (.bi dTuple (.acons (.op3 dSlice (.rd 4) (.cst .none) (.op1 dIntO (.var 5))) .anil)) (.acons (.bi dTuple (.acons (.op3 dSlice (.rd 4) (.op1 dIntO (.var 5)) (.cst .none)) .anil)) .anil))))))))))
def z_number_of  : ZS := (.seq (.asg (.one 2) (.cst (.int 0))) 
  (.seq (.forr (.one 3) (.op1 dSeq (.sr 0)) 
  (.asg (.one 2) (.op2 dAdd (.op2 dMul (.rd 2) (.rd 1)) (.rd 3)))) 
  (.ret (.var 2))))
def z_value_of (fs_power : List D → Option D) (fs_number_of : List D → Option D) : ZS := (.seq (.asg (.one 4) (.call fs_power (.acons (.rd 3) (.acons (.bi dLen (.acons (.rd 1) .anil)) .anil)))) 
  (.seq (.asg (.one 5) (.op2 dSub (.call fs_power (.acons (.rd 3) (.acons (.bi dLen (.acons (.rd 2) .anil)) .anil))) (.cst (.int 1)))) 
  (.seq (.asg (.one 6) (.op2 dAdd (.op2 dMul (.op2 dAdd (.op2 dMul (.rd 0) (.rd 4)) (.call fs_number_of (.acons (.rd 1) (.acons (.rd 3) .anil)))) (.rd 5)) (.call fs_number_of (.acons (.rd 2) (.acons (.rd 3) .anil))))) 
  (.seq (.asg (.one 7) (.bi dGcd (.acons (.rd 6) (.acons (.op2 dMul (.rd 4) (.rd 5)) .anil)))) 
  (.ret (.tup (.acons (.op2 dDiv (.rd 6) (.rd 7)) (.acons (.op2 dDiv (.op2 dMul (.rd 4) (.rd 5)) (.rd 7)) .anil))))))))
def z__law_frac  : ZS := (.seq (.par [(2, false), (3, false)] (.acons (.bi dAbs (.acons (.rd 0) .anil)) (.acons (.bi dAbs (.acons (.rd 1) .anil)) .anil))) 
  (.seq (.whl (.op2 dGt (.rd 3) (.cst (.int 0))) 
  (.par [(2, false), (3, false)] (.acons (.var 3) (.acons (.op2 dMod (.bi dInt (.acons (.rd 2) .anil)) (.rd 3)) .anil)))) 
  (.ret (.ife (.op2 dGt (.rd 1) (.cst (.int 0))) (.tup (.acons (.op2 dDiv (.rd 0) (.rd 2)) (.acons (.op2 dDiv (.rd 1) (.rd 2)) .anil))) (.tup (.acons (.op2 dDiv (.op1 dNeg (.rd 0)) (.rd 2)) (.acons (.op2 dDiv (.op1 dNeg (.rd 1)) (.rd 2)) .anil)))))))
def z__law_add (fs__law_frac : List D → Option D) : ZS := (.ret (.call fs__law_frac (.acons (.op2 dAdd (.op2 dMul (.op2 dIx (.rd 0) (.cst (.int 0))) (.op2 dIx (.rd 1) (.cst (.int 1)))) (.op2 dMul (.op2 dIx (.rd 1) (.cst (.int 0))) (.op2 dIx (.rd 0) (.cst (.int 1))))) (.acons (.op2 dMul (.op2 dIx (.rd 0) (.cst (.int 1))) (.op2 dIx (.rd 1) (.cst (.int 1)))) .anil))))
end ZC
namespace Z
open PySem PySem.Spec PyProof.Rows L2
/-! ### slices -/
theorem cut_to {ts : List D} {k : Nat} : cutD ts none (some (k : Int)) = ts.take k := by
  unfold cutD
  rw [HT.sIx_none, HT.sIx_nat, List.drop_zero, Nat.sub_zero]
  by_cases h : k ≤ ts.length
  · rw [Nat.min_eq_left h]
  · rw [Nat.min_eq_right (by omega), List.take_of_length_le (by omega), List.take_of_length_le (by omega)]
theorem cut_from {ts : List D} {k : Nat} : cutD ts (some (k : Int)) none = ts.drop k := by
  unfold cutD
  rw [HT.sIx_none, HT.sIx_nat]
  by_cases h : k ≤ ts.length
  · rw [Nat.min_eq_left h, List.take_of_length_le (by simp)]
  · rw [Nat.min_eq_right (by omega), List.drop_eq_nil_of_le (by omega), List.drop_eq_nil_of_le (show ts.length ≤ k by omega)]
    simp
theorem cut_two {ts : List D} {i j : Nat} : cutD ts (some (i : Int)) (some (j : Int)) = (ts.drop i).take (j - i) := by
  unfold cutD
  rw [HT.sIx_nat, HT.sIx_nat]
  by_cases h : i ≤ ts.length
  · rw [Nat.min_eq_left h]
    by_cases h2 : j ≤ ts.length
    · rw [Nat.min_eq_left h2]
    · rw [Nat.min_eq_right (by omega), List.take_of_length_le (by simp), List.take_of_length_le (by simp; omega)]
  · rw [Nat.min_eq_right (show ts.length ≤ i by omega), List.drop_eq_nil_of_le (Nat.le_refl _), List.drop_eq_nil_of_le (show ts.length ≤ i by omega)]
    simp
section
variable {ts : List D} {k i j : Nat} {Q : D → Prop}
theorem sm_intO {i : Int} : Sm (dIntO (.int i)) Q ↔ Q (.int i) := sm_some
theorem sm_slTo (h : Q (.list (ts.take k))) : Sm (dSlice (.list ts) .none (.int (k : Int))) Q := ⟨.list (cutD ts none (some (k : Int))), rfl, by rw [cut_to]; exact h⟩
theorem sm_slFrom (h : Q (.list (ts.drop k))) : Sm (dSlice (.list ts) (.int (k : Int)) .none) Q := ⟨.list (cutD ts (some (k : Int)) none), rfl, by rw [cut_from]; exact h⟩
theorem sm_slTwo (h : Q (.list ((ts.drop i).take (j - i)))) : Sm (dSlice (.list ts) (.int (i : Int)) (.int (j : Int))) Q := ⟨.list (cutD ts (some (i : Int)) (some (j : Int))), rfl, by rw [cut_two]; exact h⟩
theorem sm_slToT (h : Q (.tuple (ts.take k))) : Sm (dSlice (.tuple ts) .none (.int (k : Int))) Q := ⟨.tuple (cutD ts none (some (k : Int))), rfl, by rw [cut_to]; exact h⟩
theorem sm_slFromT (h : Q (.tuple (ts.drop k))) : Sm (dSlice (.tuple ts) (.int (k : Int)) .none) Q := ⟨.tuple (cutD ts (some (k : Int)) none), rfl, by rw [cut_from]; exact h⟩
theorem sm_slTwoT (h : Q (.tuple ((ts.drop i).take (j - i)))) : Sm (dSlice (.tuple ts) (.int (i : Int)) (.int (j : Int))) Q := ⟨.tuple (cutD ts (some (i : Int)) (some (j : Int))), rfl, by rw [cut_two]; exact h⟩
theorem sm_rep {k : Int} : Sm (dRep (.list ts) (.int k)) Q ↔ (-(2 ^ 63) ≤ k ∧ k < 2 ^ 63 ∧ ts.length * k.toNat ≤ 16777216) ∧ Q (.list (List.replicate k.toNat ts).flatten) := sm_if
theorem sm_gcdI {a b : Int} : Sm (dGcd [.int a, .int b]) Q ↔ Q (.int (Nat.gcd a.natAbs b.natAbs : Nat)) := sm_some
end
/-! ### dicts of ints -/
theorem dLook_new {kvs : List (D × D)} {k t : D} (h : dLook kvs k = none) : dPut kvs k t = kvs ++ [(k, t)] := by
  unfold dLook at h
  unfold dPut
  rw [if_neg]
  intro c
  obtain ⟨p, hp, hk⟩ := List.any_eq_true.mp c
  have := List.find?_eq_none.mp (Option.map_eq_none_iff.mp h) p hp
  exact this hk
theorem dLook_range (f : Nat → Nat) (g : Nat → D) (k x : Nat) : dLook ((List.range k).map fun i => (PyData.int (f i : Nat), g i)) (.int (x : Nat)) = ((List.range k).find? fun i => decide (f i = x)).map g := by
  unfold dLook
  rw [List.find?_map, Option.map_map]
  have : ((fun p : D × D => PyData.eqv p.1 (.int (x : Nat))) ∘ fun i => (PyData.int (f i : Nat), g i)) = fun i => decide (f i = x) := by
    funext i
    show PyData.eqv (.int (f i : Nat)) (.int (x : Nat)) = _
    rw [eqv_int]
    by_cases h : f i = x
    · simp [h]
    · have : ¬ ((f i : Int) = (x : Int)) := fun c => h (by exact_mod_cast c)
      simp [h, this]
  rw [this]
  rfl
/-- a function whose first values differ from each other takes no more values than there are -/
theorem pigeon (f : Nat → Nat) (k q : Nat) (h : ∀ i, i < k → f i < q) (hd : ∀ i j, i < j → j < k → f i ≠ f j) : k ≤ q := by
  have hn : ((List.range k).map f).Nodup := by
    rw [List.nodup_iff_pairwise_ne, List.pairwise_map]
    refine List.Pairwise.imp_of_mem (fun {a b} ha hb hab => ?_) (List.pairwise_lt_range (n := k))
    exact hd a b hab (List.mem_range.mp hb)
  have hs : ((List.range k).map f) ⊆ List.range q := fun x hx => by
    obtain ⟨i, hi, rfl⟩ := List.mem_map.mp hx
    exact List.mem_range.mpr (h i (List.mem_range.mp hi))
  have := hn.length_le_of_subset hs
  simpa using this
end Z
namespace ZC
open PySem PySem.Spec PyProof.Rows L2 Z ZM
theorem eqv_allI : ∀ {l m : List Int}, PyData.eqvAll (l.map PyData.int) (m.map PyData.int) = decide (l = m)
  | [], [] => by simp [PyData.eqvAll]
  | [], _ :: _ => by simp [PyData.eqvAll]
  | _ :: _, [] => by simp [PyData.eqvAll]
  | a :: l, b :: m => by
    rw [List.map_cons, List.map_cons, PyData.eqvAll, eqv_int, eqv_allI]
    by_cases h : a = b <;> by_cases h2 : l = m <;> simp [h, h2]
theorem natsD_ints (l : List Nat) : natsD l = (l.map fun n : Nat => (n : Int)).map PyData.int := by unfold natsD; rw [List.map_map]; rfl
theorem cast_inj {l m : List Nat} : (l.map fun n : Nat => (n : Int)) = m.map (fun n : Nat => (n : Int)) ↔ l = m :=
  ⟨fun h => List.map_inj_right (fun a b e => by exact_mod_cast e) |>.mp h, fun h => by rw [h]⟩
theorem eqv_natsT {l m : List Nat} : PyData.eqv (.tuple (natsD l)) (.tuple (natsD m)) = decide (l = m) := by
  rw [PyData.eqv, natsD_ints, natsD_ints, eqv_allI]
  simp only [cast_inj]
theorem eqv_natsL {l m : List Nat} : PyData.eqv (.list (natsD l)) (.list (natsD m)) = decide (l = m) := by
  rw [PyData.eqv, natsD_ints, natsD_ints, eqv_allI]
  simp only [cast_inj]
theorem shp_natsT {l : List Nat} : SeqAt.shaped (.tuple (natsD l)) = true := (Shp.tuple (k := 0) fun x hx => by
  unfold natsD at hx
  obtain ⟨n, _, rfl⟩ := List.mem_map.mp hx
  exact Shp.int).ok
theorem shp_natsL {l : List Nat} : SeqAt.shaped (.list (natsD l)) = true := (Shp.list (k := 0) fun x hx => by
  unfold natsD at hx
  obtain ⟨n, _, rfl⟩ := List.mem_map.mp hx
  exact Shp.int).ok
section
variable {l m : List Nat} {Q : D → Prop}
theorem sm_eqNT : Sm (dEq (.tuple (natsD l)) (.tuple (natsD m))) Q ↔ Q (.bool (decide (l = m))) := by
  unfold dEq; rw [if_pos (by rw [shp_natsT, shp_natsT]; rfl), sm_some, eqv_natsT]
theorem sm_neNT : Sm (dNe (.tuple (natsD l)) (.tuple (natsD m))) Q ↔ Q (.bool (!decide (l = m))) := by
  unfold dNe; rw [if_pos (by rw [shp_natsT, shp_natsT]; rfl), sm_some, eqv_natsT]
theorem sm_eqNL : Sm (dEq (.list (natsD l)) (.list (natsD m))) Q ↔ Q (.bool (decide (l = m))) := by
  unfold dEq; rw [if_pos (by rw [shp_natsL, shp_natsL]; rfl), sm_some, eqv_natsL]
theorem sm_neNL : Sm (dNe (.list (natsD l)) (.list (natsD m))) Q ↔ Q (.bool (!decide (l = m))) := by
  unfold dNe; rw [if_pos (by rw [shp_natsL, shp_natsL]; rfl), sm_some, eqv_natsL]
end

/-! ### fractions written out -/
def xR (p q b i : Nat) : Nat := p * b ^ i % q
def xF (p q b i : Nat) : Nat := xR p q b i * b / q
def xFs (p q b lo n : Nat) : List Nat := (List.range' lo n).map (xF p q b)
structure IsExp (p q b a k : Nat) : Prop where
  lt : a < k
  eq : xR p q b a = xR p q b k
  ne : ∀ i j, i < j → j < k → xR p q b i ≠ xR p q b j
  le : k ≤ q
theorem xR_succ {p q b i : Nat} : xR p q b (i + 1) = xR p q b i * b % q := by
  unfold xR
  rw [Nat.pow_succ, ← Nat.mul_assoc, Nat.mod_mul_mod]
theorem xR_lt {p q b i : Nat} (hq : 1 ≤ q) : xR p q b i < q := Nat.mod_lt _ hq
theorem xF_lt {p q b i : Nat} (hq : 1 ≤ q) (hb : 1 ≤ b) : xF p q b i < b := by
  unfold xF
  apply (Nat.div_lt_iff_lt_mul hq).mpr
  have := xR_lt (p := p) (b := b) (i := i) hq
  rw [Nat.mul_comm b]
  exact Nat.mul_lt_mul_of_pos_right this hb
theorem xFs_len {p q b lo n : Nat} : (xFs p q b lo n).length = n := by unfold xFs; simp
theorem xFs_lt {p q b lo n : Nat} (hq : 1 ≤ q) (hb : 1 ≤ b) : ∀ d ∈ xFs p q b lo n, d < b := fun d hd => by
  unfold xFs at hd
  obtain ⟨i, _, rfl⟩ := List.mem_map.mp hd
  exact xF_lt hq hb
theorem xFs_split {p q b lo n a : Nat} (h : a ≤ n) : xFs p q b lo n = xFs p q b lo a ++ xFs p q b (lo + a) (n - a) := by
  unfold xFs
  rw [← List.map_append, List.range'_append_1, show a + (n - a) = n by omega]
theorem w_expansion {p q b : Nat} (hq : 1 ≤ q) (hq' : q < 16777216) (hp : p < 1152921504606846976) (hb : b < 1073741824) : W z_expansion [.sh (.int p), .sh (.int q), .sh (.int b), .no, .no, .no, .no, .no] none (fun o => ∃ a k : Nat, IsExp p q b a k ∧ o = .ret (.tuple [.int (p / q : Nat), .tuple (natsD (xFs p q b 0 a)), .tuple (natsD (xFs p q b a (k - a)))]) none) := by
  unfold z_expansion
  simp only [e_var, e_rd, e_sr, e_cst, e_op1, e_op2, e_op3, e_chain, e_band, e_bor, e_ife, e_anil, e_acons, e_lst, e_tup, e_bi, e_call, e_calls, e_sget, ls_l, gV_sh, gR_sh, gR_br, gR_ow, gS_sh, gS_br, gO_ow, gF_ow, gF_sh, sm_some, w_asg1, w_asg, w_asgO, w_par, w_ret, w_drop, w_aug, w_mut, w_seti, w_augi, w_pop, w_frz, w_sset, w_ife, w_skip, w_brk, w_cont, w_seq, kq_ret, kq_bk, kq_ct, kl_bk, kl_ret, br_b, decide_eq_true_eq, decide_eq_false_iff_not, Bool.not_eq_true', Bool.not_eq_false', reduceCtorEq, true_implies, false_implies, forall_const, not_true_eq_false, not_false_eq_true, and_true, true_and, implies_true, sm_add, sm_addI, sm_addL, sm_addT, sm_cat, sm_sub, sm_mul, sm_div, sm_mod, sm_pow, sm_neg, sm_lt, sm_le, sm_gt, sm_ge, sm_eqI, sm_neI, sm_eqB, sm_neB, sm_isN, sm_isNotN, sm_truI, sm_truB, sm_truN, sm_truL, sm_truT, sm_not, sm_ixL, sm_ixT, sm_at0, sm_at1, sm_at2, sm_lenL, sm_lenT, sm_abs, sm_int, sm_intB, sm_max2, sm_min2, sm_listL, sm_listT, sm_tupL, sm_tupT, sm_seqL, sm_seqT, sm_lsL, sm_rng1, sm_rng2, sm_rng3, sm_app, sm_rep1, sm_set1, sm_setN, sm_setC, sm_mixN, sm_mixC, sm_isi, sm_isi2, sm_item0, sm_item1, sm_iset0, sm_iset1, wipe_n, wipe_c, List.set_cons_zero, List.set_cons_succ, List.getElem?_cons_zero, List.getElem?_cons_succ, List.length_cons, List.length_nil, Nat.zero_le, Bool.false_eq_true, if_true, if_false, Bool.not_true, Bool.not_false, Bool.not_not, kq_nx]
  refine ⟨div_sm, by omega, ?_⟩
  rw [show (p : Int) / (q : Int) = ((p / q : Nat) : Int) by rw [Int.natCast_ediv], show (p : Int) % (q : Int) = ((p % q : Nat) : Int) by rw [Int.natCast_emod]]
  refine W.whl (fun m env st => ∃ k : Nat, env = [.sh (.int p), .sh (.int q), .sh (.int b), .ow (.dict ((List.range k).map fun i => (PyData.int (xR p q b i : Nat), PyData.int (i : Nat)))), .ow (.list (natsD (xFs p q b 0 k))), .no, .sh (.int (p / q : Nat)), .sh (.int (xR p q b k : Nat))] ∧ st = none ∧ (∀ i j, i < j → j < k → xR p q b i ≠ xR p q b j) ∧ k ≤ q ∧ m = q - k + 0) (q - 0 + 0) ⟨0, ?_, rfl, fun i j _ h => by omega, Nat.zero_le _, rfl⟩ ?_
  · show _ = [_, _, _, Sl.ow (.dict []), Sl.ow (.list []), _, _, _]
    unfold xR; rw [Nat.pow_zero, Nat.mul_one]
  rintro m env st ⟨k, rfl, rfl, hne, hkq, rfl⟩
  simp only [e_var, e_rd, e_sr, e_cst, e_op1, e_op2, e_op3, e_chain, e_band, e_bor, e_ife, e_anil, e_acons, e_lst, e_tup, e_bi, e_call, e_calls, e_sget, ls_l, gV_sh, gR_sh, gR_br, gR_ow, gS_sh, gS_br, gO_ow, gF_ow, gF_sh, sm_some, w_asg1, w_asg, w_asgO, w_par, w_ret, w_drop, w_aug, w_mut, w_seti, w_augi, w_pop, w_frz, w_sset, w_ife, w_skip, w_brk, w_cont, w_seq, kq_ret, kq_bk, kq_ct, kl_bk, kl_ret, br_b, decide_eq_true_eq, decide_eq_false_iff_not, Bool.not_eq_true', Bool.not_eq_false', reduceCtorEq, true_implies, false_implies, forall_const, not_true_eq_false, not_false_eq_true, and_true, true_and, implies_true, sm_add, sm_addI, sm_addL, sm_addT, sm_cat, sm_sub, sm_mul, sm_div, sm_mod, sm_pow, sm_neg, sm_lt, sm_le, sm_gt, sm_ge, sm_eqI, sm_neI, sm_eqB, sm_neB, sm_isN, sm_isNotN, sm_truI, sm_truB, sm_truN, sm_truL, sm_truT, sm_not, sm_ixL, sm_ixT, sm_at0, sm_at1, sm_at2, sm_lenL, sm_lenT, sm_abs, sm_int, sm_intB, sm_max2, sm_min2, sm_listL, sm_listT, sm_tupL, sm_tupT, sm_seqL, sm_seqT, sm_lsL, sm_rng1, sm_rng2, sm_rng3, sm_app, sm_rep1, sm_set1, sm_setN, sm_setC, sm_mixN, sm_mixC, sm_isi, sm_isi2, sm_item0, sm_item1, sm_iset0, sm_iset1, wipe_n, wipe_c, List.set_cons_zero, List.set_cons_succ, List.getElem?_cons_zero, List.getElem?_cons_succ, List.length_cons, List.length_nil, Nat.zero_le, Bool.false_eq_true, if_true, if_false, Bool.not_true, Bool.not_false, Bool.not_not]
  refine sm_dnotin.mpr ?_
  rw [dLook_range]
  cases hf : (List.range k).find? fun i => decide (xR p q b i = xR p q b k) with
  | none =>
    have hnew : ∀ i, i < k → xR p q b i ≠ xR p q b k := fun i hi c => by
      have := List.find?_eq_none.mp hf i (List.mem_range.mpr hi)
      simp [c] at this
    have hne' : ∀ i j, i < j → j < k + 1 → xR p q b i ≠ xR p q b j := fun i j h1 h2 => by
      by_cases c : j = k
      · subst c; exact hnew i h1
      · exact hne i j h1 (by omega)
    have hk1 : k + 1 ≤ q := pigeon (xR p q b) (k + 1) q (fun i _ => xR_lt hq) hne'
    have hR := xR_lt (p := p) (b := b) (i := k) hq
    simp only [e_var, e_rd, e_sr, e_cst, e_op1, e_op2, e_op3, e_chain, e_band, e_bor, e_ife, e_anil, e_acons, e_lst, e_tup, e_bi, e_call, e_calls, e_sget, ls_l, gV_sh, gR_sh, gR_br, gR_ow, gS_sh, gS_br, gO_ow, gF_ow, gF_sh, sm_some, w_asg1, w_asg, w_asgO, w_par, w_ret, w_drop, w_aug, w_mut, w_seti, w_augi, w_pop, w_frz, w_sset, w_ife, w_skip, w_brk, w_cont, w_seq, kq_ret, kq_bk, kq_ct, kl_bk, kl_ret, br_b, decide_eq_true_eq, decide_eq_false_iff_not, Bool.not_eq_true', Bool.not_eq_false', reduceCtorEq, true_implies, false_implies, forall_const, not_true_eq_false, not_false_eq_true, and_true, true_and, implies_true, sm_add, sm_addI, sm_addL, sm_addT, sm_cat, sm_sub, sm_mul, sm_div, sm_mod, sm_pow, sm_neg, sm_lt, sm_le, sm_gt, sm_ge, sm_eqI, sm_neI, sm_eqB, sm_neB, sm_isN, sm_isNotN, sm_truI, sm_truB, sm_truN, sm_truL, sm_truT, sm_not, sm_ixL, sm_ixT, sm_at0, sm_at1, sm_at2, sm_lenL, sm_lenT, sm_abs, sm_int, sm_intB, sm_max2, sm_min2, sm_listL, sm_listT, sm_tupL, sm_tupT, sm_seqL, sm_seqT, sm_lsL, sm_rng1, sm_rng2, sm_rng3, sm_app, sm_rep1, sm_set1, sm_setN, sm_setC, sm_mixN, sm_mixC, sm_isi, sm_isi2, sm_item0, sm_item1, sm_iset0, sm_iset1, wipe_n, wipe_c, List.set_cons_zero, List.set_cons_succ, List.getElem?_cons_zero, List.getElem?_cons_succ, List.length_cons, List.length_nil, Nat.zero_le, Bool.false_eq_true, if_true, if_false, Bool.not_true, Bool.not_false, Bool.not_not, Option.map_none, Option.isSome_none]
    rw [natsD_len, xFs_len]
    refine sm_dset.mpr ⟨by simp; omega, ?_⟩
    rw [dLook_new (by rw [dLook_range, hf]; rfl), kq_nx]
    simp only [e_var, e_rd, e_sr, e_cst, e_op1, e_op2, e_op3, e_chain, e_band, e_bor, e_ife, e_anil, e_acons, e_lst, e_tup, e_bi, e_call, e_calls, e_sget, ls_l, gV_sh, gR_sh, gR_br, gR_ow, gS_sh, gS_br, gO_ow, gF_ow, gF_sh, sm_some, w_asg1, w_asg, w_asgO, w_par, w_ret, w_drop, w_aug, w_mut, w_seti, w_augi, w_pop, w_frz, w_sset, w_ife, w_skip, w_brk, w_cont, w_seq, kq_ret, kq_bk, kq_ct, kl_bk, kl_ret, br_b, decide_eq_true_eq, decide_eq_false_iff_not, Bool.not_eq_true', Bool.not_eq_false', reduceCtorEq, true_implies, false_implies, forall_const, not_true_eq_false, not_false_eq_true, and_true, true_and, implies_true, sm_add, sm_addI, sm_addL, sm_addT, sm_cat, sm_sub, sm_mul, sm_div, sm_mod, sm_pow, sm_neg, sm_lt, sm_le, sm_gt, sm_ge, sm_eqI, sm_neI, sm_eqB, sm_neB, sm_isN, sm_isNotN, sm_truI, sm_truB, sm_truN, sm_truL, sm_truT, sm_not, sm_ixL, sm_ixT, sm_at0, sm_at1, sm_at2, sm_lenL, sm_lenT, sm_abs, sm_int, sm_intB, sm_max2, sm_min2, sm_listL, sm_listT, sm_tupL, sm_tupT, sm_seqL, sm_seqT, sm_lsL, sm_rng1, sm_rng2, sm_rng3, sm_app, sm_rep1, sm_set1, sm_setN, sm_setC, sm_mixN, sm_mixC, sm_isi, sm_isi2, sm_item0, sm_item1, sm_iset0, sm_iset1, wipe_n, wipe_c, List.set_cons_zero, List.set_cons_succ, List.getElem?_cons_zero, List.getElem?_cons_succ, List.length_cons, List.length_nil, Nat.zero_le, Bool.false_eq_true, if_true, if_false, Bool.not_true, Bool.not_false, Bool.not_not, kq_nx]
    have e1 : (xR p q b k : Int) * (b : Int) = ((xR p q b k * b : Nat) : Int) := by rw [Int.natCast_mul]
    rw [e1]
    have e2 : ((xR p q b k * b : Nat) : Int) / (q : Int) = ((xF p q b k : Nat) : Int) := by rw [← Int.natCast_ediv]; rfl
    have e3 : ((xR p q b k * b : Nat) : Int) % (q : Int) = ((xR p q b (k + 1) : Nat) : Int) := by rw [← Int.natCast_emod, xR_succ]
    rw [e2, e3]
    have hlen : (natsD (xFs p q b 0 k)).length = k := by rw [natsD_len, xFs_len]
    refine ⟨mul_sm, div_sm, by omega, mul_sm, by omega, q - (k + 1), by omega, k + 1, ?_, rfl, hne', hk1, rfl⟩
    have e4 : natsD (xFs p q b 0 k) ++ [PyData.int (xF p q b k : Nat)] = natsD (xFs p q b 0 (k + 1)) := by
      unfold xFs
      rw [List.range'_1_concat, List.map_append, ← natsD_app]
      simp [natsD]
    rw [e4, List.range_succ, List.map_append]
    rfl
  | some a =>
    have ha := List.find?_some hf
    have hak := List.mem_range.mp (List.mem_of_find?_eq_some hf)
    have ha' : xR p q b a = xR p q b k := by simpa using ha
    simp only [e_var, e_rd, e_sr, e_cst, e_op1, e_op2, e_op3, e_chain, e_band, e_bor, e_ife, e_anil, e_acons, e_lst, e_tup, e_bi, e_call, e_calls, e_sget, ls_l, gV_sh, gR_sh, gR_br, gR_ow, gS_sh, gS_br, gO_ow, gF_ow, gF_sh, sm_some, w_asg1, w_asg, w_asgO, w_par, w_ret, w_drop, w_aug, w_mut, w_seti, w_augi, w_pop, w_frz, w_sset, w_ife, w_skip, w_brk, w_cont, w_seq, kq_ret, kq_bk, kq_ct, kl_bk, kl_ret, br_b, decide_eq_true_eq, decide_eq_false_iff_not, Bool.not_eq_true', Bool.not_eq_false', reduceCtorEq, true_implies, false_implies, forall_const, not_true_eq_false, not_false_eq_true, and_true, true_and, implies_true, sm_add, sm_addI, sm_addL, sm_addT, sm_cat, sm_sub, sm_mul, sm_div, sm_mod, sm_pow, sm_neg, sm_lt, sm_le, sm_gt, sm_ge, sm_eqI, sm_neI, sm_eqB, sm_neB, sm_isN, sm_isNotN, sm_truI, sm_truB, sm_truN, sm_truL, sm_truT, sm_not, sm_ixL, sm_ixT, sm_at0, sm_at1, sm_at2, sm_lenL, sm_lenT, sm_abs, sm_int, sm_intB, sm_max2, sm_min2, sm_listL, sm_listT, sm_tupL, sm_tupT, sm_seqL, sm_seqT, sm_lsL, sm_rng1, sm_rng2, sm_rng3, sm_app, sm_rep1, sm_set1, sm_setN, sm_setC, sm_mixN, sm_mixC, sm_isi, sm_isi2, sm_item0, sm_item1, sm_iset0, sm_iset1, wipe_n, wipe_c, List.set_cons_zero, List.set_cons_succ, List.getElem?_cons_zero, List.getElem?_cons_succ, List.length_cons, List.length_nil, Nat.zero_le, Bool.false_eq_true, if_true, if_false, Bool.not_true, Bool.not_false, Bool.not_not, Option.map_some, Option.isSome_some]
    rw [kq_nx]
    simp only [e_var, e_rd, e_sr, e_cst, e_op1, e_op2, e_op3, e_chain, e_band, e_bor, e_ife, e_anil, e_acons, e_lst, e_tup, e_bi, e_call, e_calls, e_sget, ls_l, gV_sh, gR_sh, gR_br, gR_ow, gS_sh, gS_br, gO_ow, gF_ow, gF_sh, sm_some, w_asg1, w_asg, w_asgO, w_par, w_ret, w_drop, w_aug, w_mut, w_seti, w_augi, w_pop, w_frz, w_sset, w_ife, w_skip, w_brk, w_cont, w_seq, kq_ret, kq_bk, kq_ct, kl_bk, kl_ret, br_b, decide_eq_true_eq, decide_eq_false_iff_not, Bool.not_eq_true', Bool.not_eq_false', reduceCtorEq, true_implies, false_implies, forall_const, not_true_eq_false, not_false_eq_true, and_true, true_and, implies_true, sm_add, sm_addI, sm_addL, sm_addT, sm_cat, sm_sub, sm_mul, sm_div, sm_mod, sm_pow, sm_neg, sm_lt, sm_le, sm_gt, sm_ge, sm_eqI, sm_neI, sm_eqB, sm_neB, sm_isN, sm_isNotN, sm_truI, sm_truB, sm_truN, sm_truL, sm_truT, sm_not, sm_ixL, sm_ixT, sm_at0, sm_at1, sm_at2, sm_lenL, sm_lenT, sm_abs, sm_int, sm_intB, sm_max2, sm_min2, sm_listL, sm_listT, sm_tupL, sm_tupT, sm_seqL, sm_seqT, sm_lsL, sm_rng1, sm_rng2, sm_rng3, sm_app, sm_rep1, sm_set1, sm_setN, sm_setC, sm_mixN, sm_mixC, sm_isi, sm_isi2, sm_item0, sm_item1, sm_iset0, sm_iset1, wipe_n, wipe_c, List.set_cons_zero, List.set_cons_succ, List.getElem?_cons_zero, List.getElem?_cons_succ, List.length_cons, List.length_nil, Nat.zero_le, Bool.false_eq_true, if_true, if_false, Bool.not_true, Bool.not_false, Bool.not_not]
    refine sm_dget.mpr ?_
    rw [dLook_range, hf]
    simp only [e_var, e_rd, e_sr, e_cst, e_op1, e_op2, e_op3, e_chain, e_band, e_bor, e_ife, e_anil, e_acons, e_lst, e_tup, e_bi, e_call, e_calls, e_sget, ls_l, gV_sh, gR_sh, gR_br, gR_ow, gS_sh, gS_br, gO_ow, gF_ow, gF_sh, sm_some, w_asg1, w_asg, w_asgO, w_par, w_ret, w_drop, w_aug, w_mut, w_seti, w_augi, w_pop, w_frz, w_sset, w_ife, w_skip, w_brk, w_cont, w_seq, kq_ret, kq_bk, kq_ct, kl_bk, kl_ret, br_b, decide_eq_true_eq, decide_eq_false_iff_not, Bool.not_eq_true', Bool.not_eq_false', reduceCtorEq, true_implies, false_implies, forall_const, not_true_eq_false, not_false_eq_true, and_true, true_and, implies_true, sm_add, sm_addI, sm_addL, sm_addT, sm_cat, sm_sub, sm_mul, sm_div, sm_mod, sm_pow, sm_neg, sm_lt, sm_le, sm_gt, sm_ge, sm_eqI, sm_neI, sm_eqB, sm_neB, sm_isN, sm_isNotN, sm_truI, sm_truB, sm_truN, sm_truL, sm_truT, sm_not, sm_ixL, sm_ixT, sm_at0, sm_at1, sm_at2, sm_lenL, sm_lenT, sm_abs, sm_int, sm_intB, sm_max2, sm_min2, sm_listL, sm_listT, sm_tupL, sm_tupT, sm_seqL, sm_seqT, sm_lsL, sm_rng1, sm_rng2, sm_rng3, sm_app, sm_rep1, sm_set1, sm_setN, sm_setC, sm_mixN, sm_mixC, sm_isi, sm_isi2, sm_item0, sm_item1, sm_iset0, sm_iset1, wipe_n, wipe_c, List.set_cons_zero, List.set_cons_succ, List.getElem?_cons_zero, List.getElem?_cons_succ, List.length_cons, List.length_nil, Nat.zero_le, Bool.false_eq_true, if_true, if_false, Bool.not_true, Bool.not_false, Bool.not_not, Option.map_some]
    rw [kq_nx]
    simp only [e_var, e_rd, e_sr, e_cst, e_op1, e_op2, e_op3, e_chain, e_band, e_bor, e_ife, e_anil, e_acons, e_lst, e_tup, e_bi, e_call, e_calls, e_sget, ls_l, gV_sh, gR_sh, gR_br, gR_ow, gS_sh, gS_br, gO_ow, gF_ow, gF_sh, sm_some, w_asg1, w_asg, w_asgO, w_par, w_ret, w_drop, w_aug, w_mut, w_seti, w_augi, w_pop, w_frz, w_sset, w_ife, w_skip, w_brk, w_cont, w_seq, kq_ret, kq_bk, kq_ct, kl_bk, kl_ret, br_b, decide_eq_true_eq, decide_eq_false_iff_not, Bool.not_eq_true', Bool.not_eq_false', reduceCtorEq, true_implies, false_implies, forall_const, not_true_eq_false, not_false_eq_true, and_true, true_and, implies_true, sm_add, sm_addI, sm_addL, sm_addT, sm_cat, sm_sub, sm_mul, sm_div, sm_mod, sm_pow, sm_neg, sm_lt, sm_le, sm_gt, sm_ge, sm_eqI, sm_neI, sm_eqB, sm_neB, sm_isN, sm_isNotN, sm_truI, sm_truB, sm_truN, sm_truL, sm_truT, sm_not, sm_ixL, sm_ixT, sm_at0, sm_at1, sm_at2, sm_lenL, sm_lenT, sm_abs, sm_int, sm_intB, sm_max2, sm_min2, sm_listL, sm_listT, sm_tupL, sm_tupT, sm_seqL, sm_seqT, sm_lsL, sm_rng1, sm_rng2, sm_rng3, sm_app, sm_rep1, sm_set1, sm_setN, sm_setC, sm_mixN, sm_mixC, sm_isi, sm_isi2, sm_item0, sm_item1, sm_iset0, sm_iset1, wipe_n, wipe_c, List.set_cons_zero, List.set_cons_succ, List.getElem?_cons_zero, List.getElem?_cons_succ, List.length_cons, List.length_nil, Nat.zero_le, Bool.false_eq_true, if_true, if_false, Bool.not_true, Bool.not_false, Bool.not_not, sm_intO]
    refine sm_slTo ?_
    simp only [e_var, e_rd, e_sr, e_cst, e_op1, e_op2, e_op3, e_chain, e_band, e_bor, e_ife, e_anil, e_acons, e_lst, e_tup, e_bi, e_call, e_calls, e_sget, ls_l, gV_sh, gR_sh, gR_br, gR_ow, gS_sh, gS_br, gO_ow, gF_ow, gF_sh, sm_some, w_asg1, w_asg, w_asgO, w_par, w_ret, w_drop, w_aug, w_mut, w_seti, w_augi, w_pop, w_frz, w_sset, w_ife, w_skip, w_brk, w_cont, w_seq, kq_ret, kq_bk, kq_ct, kl_bk, kl_ret, br_b, decide_eq_true_eq, decide_eq_false_iff_not, Bool.not_eq_true', Bool.not_eq_false', reduceCtorEq, true_implies, false_implies, forall_const, not_true_eq_false, not_false_eq_true, and_true, true_and, implies_true, sm_add, sm_addI, sm_addL, sm_addT, sm_cat, sm_sub, sm_mul, sm_div, sm_mod, sm_pow, sm_neg, sm_lt, sm_le, sm_gt, sm_ge, sm_eqI, sm_neI, sm_eqB, sm_neB, sm_isN, sm_isNotN, sm_truI, sm_truB, sm_truN, sm_truL, sm_truT, sm_not, sm_ixL, sm_ixT, sm_at0, sm_at1, sm_at2, sm_lenL, sm_lenT, sm_abs, sm_int, sm_intB, sm_max2, sm_min2, sm_listL, sm_listT, sm_tupL, sm_tupT, sm_seqL, sm_seqT, sm_lsL, sm_rng1, sm_rng2, sm_rng3, sm_app, sm_rep1, sm_set1, sm_setN, sm_setC, sm_mixN, sm_mixC, sm_isi, sm_isi2, sm_item0, sm_item1, sm_iset0, sm_iset1, wipe_n, wipe_c, List.set_cons_zero, List.set_cons_succ, List.getElem?_cons_zero, List.getElem?_cons_succ, List.length_cons, List.length_nil, Nat.zero_le, Bool.false_eq_true, if_true, if_false, Bool.not_true, Bool.not_false, Bool.not_not]
    refine sm_slFrom ?_
    simp only [e_var, e_rd, e_sr, e_cst, e_op1, e_op2, e_op3, e_chain, e_band, e_bor, e_ife, e_anil, e_acons, e_lst, e_tup, e_bi, e_call, e_calls, e_sget, ls_l, gV_sh, gR_sh, gR_br, gR_ow, gS_sh, gS_br, gO_ow, gF_ow, gF_sh, sm_some, w_asg1, w_asg, w_asgO, w_par, w_ret, w_drop, w_aug, w_mut, w_seti, w_augi, w_pop, w_frz, w_sset, w_ife, w_skip, w_brk, w_cont, w_seq, kq_ret, kq_bk, kq_ct, kl_bk, kl_ret, br_b, decide_eq_true_eq, decide_eq_false_iff_not, Bool.not_eq_true', Bool.not_eq_false', reduceCtorEq, true_implies, false_implies, forall_const, not_true_eq_false, not_false_eq_true, and_true, true_and, implies_true, sm_add, sm_addI, sm_addL, sm_addT, sm_cat, sm_sub, sm_mul, sm_div, sm_mod, sm_pow, sm_neg, sm_lt, sm_le, sm_gt, sm_ge, sm_eqI, sm_neI, sm_eqB, sm_neB, sm_isN, sm_isNotN, sm_truI, sm_truB, sm_truN, sm_truL, sm_truT, sm_not, sm_ixL, sm_ixT, sm_at0, sm_at1, sm_at2, sm_lenL, sm_lenT, sm_abs, sm_int, sm_intB, sm_max2, sm_min2, sm_listL, sm_listT, sm_tupL, sm_tupT, sm_seqL, sm_seqT, sm_lsL, sm_rng1, sm_rng2, sm_rng3, sm_app, sm_rep1, sm_set1, sm_setN, sm_setC, sm_mixN, sm_mixC, sm_isi, sm_isi2, sm_item0, sm_item1, sm_iset0, sm_iset1, wipe_n, wipe_c, List.set_cons_zero, List.set_cons_succ, List.getElem?_cons_zero, List.getElem?_cons_succ, List.length_cons, List.length_nil, Nat.zero_le, Bool.false_eq_true, if_true, if_false, Bool.not_true, Bool.not_false, Bool.not_not]
    have e5 := xFs_split (p := p) (q := q) (b := b) (lo := 0) (n := k) (a := a) (by omega)
    rw [Nat.zero_add] at e5
    rw [e5, ← natsD_app, List.take_left' (by rw [natsD_len, xFs_len]), List.drop_left' (by rw [natsD_len, xFs_len])]
    exact ⟨by simp, a, k, ⟨hak, ha', hne, hkq⟩, rfl⟩
noncomputable def fs_expansion : List D → Option D := FV 3 8 z_expansion
theorem sm_expansion {i j h : Int} {p q b : Nat} {Q : D → Prop} (ei : i = p) (ej : j = q) (eh : h = b) (hq : 1 ≤ q) (hq' : q < 16777216) (hp : p < 1152921504606846976) (hb : b < 1073741824)
    (qq : ∀ a k : Nat, IsExp p q b a k → Q (.tuple [.int (p / q : Nat), .tuple (natsD (xFs p q b 0 a)), .tuple (natsD (xFs p q b a (k - a)))])) : Sm (fs_expansion [.int i, .int j, .int h]) Q := by
  subst ei ej eh
  exact FV.sm rfl ((w_expansion hq hq' hp hb).mono fun o ⟨a, k, h, e⟩ => ⟨_, _, e, qq a k h⟩)

/-! ### the number of some figures -/
def nfI (b : Nat) (acc : Nat) (l : List Nat) : Nat := l.foldl (fun a d => a * b + d) acc
theorem nfI_lt {b : Nat} : ∀ (l : List Nat) (acc : Nat), (∀ d ∈ l, d < b) → nfI b acc l < (acc + 1) * b ^ l.length
  | [], acc, _ => by unfold nfI; simp
  | d :: l, acc, h => by
    have ih := nfI_lt l (acc * b + d) fun x hx => h x (.tail _ hx)
    have hd := h d (.head _)
    have e : nfI b acc (d :: l) = nfI b (acc * b + d) l := rfl
    rw [e]
    refine Nat.lt_of_lt_of_le ih ?_
    rw [List.length_cons, Nat.pow_succ, Nat.mul_comm (b ^ l.length) b, ← Nat.mul_assoc]
    refine Nat.mul_le_mul_right _ ?_
    rw [Nat.add_mul]
    omega
theorem w_number_of {b : Nat} {l : List Nat} (hb : b < 1024) (hl : ∀ d ∈ l, d < b) (hlen : l.length ≤ 5000) : W z_number_of [.sh (.tuple (natsD l)), .sh (.int b), .no, .no] none (fun o => o = .ret (.int (nfI b 0 l : Nat)) none) := by
  unfold z_number_of
  simp only [e_var, e_rd, e_sr, e_cst, e_op1, e_op2, e_op3, e_chain, e_band, e_bor, e_ife, e_anil, e_acons, e_lst, e_tup, e_bi, e_call, e_calls, e_sget, ls_l, gV_sh, gR_sh, gR_br, gR_ow, gS_sh, gS_br, gO_ow, gF_ow, gF_sh, sm_some, w_asg1, w_asg, w_asgO, w_par, w_ret, w_drop, w_aug, w_mut, w_seti, w_augi, w_pop, w_frz, w_sset, w_ife, w_skip, w_brk, w_cont, w_seq, kq_ret, kq_bk, kq_ct, kl_bk, kl_ret, br_b, decide_eq_true_eq, decide_eq_false_iff_not, Bool.not_eq_true', Bool.not_eq_false', reduceCtorEq, true_implies, false_implies, forall_const, not_true_eq_false, not_false_eq_true, and_true, true_and, implies_true, sm_add, sm_addI, sm_addL, sm_addT, sm_cat, sm_sub, sm_mul, sm_div, sm_mod, sm_pow, sm_neg, sm_lt, sm_le, sm_gt, sm_ge, sm_eqI, sm_neI, sm_eqB, sm_neB, sm_isN, sm_isNotN, sm_truI, sm_truB, sm_truN, sm_truL, sm_truT, sm_not, sm_ixL, sm_ixT, sm_at0, sm_at1, sm_at2, sm_lenL, sm_lenT, sm_abs, sm_int, sm_intB, sm_max2, sm_min2, sm_listL, sm_listT, sm_tupL, sm_tupT, sm_seqL, sm_seqT, sm_lsL, sm_rng1, sm_rng2, sm_rng3, sm_app, sm_rep1, sm_set1, sm_setN, sm_setC, sm_mixN, sm_mixC, sm_isi, sm_isi2, sm_item0, sm_item1, sm_iset0, sm_iset1, wipe_n, wipe_c, List.set_cons_zero, List.set_cons_succ, List.getElem?_cons_zero, List.getElem?_cons_succ, List.length_cons, List.length_nil, Nat.zero_le, Bool.false_eq_true, if_true, if_false, Bool.not_true, Bool.not_false, Bool.not_not, kq_nx]
  refine W.forL (fun ts env st => ∃ (r : List Nat) (a j : Nat) (s : Sl), env = [.sh (.tuple (natsD l)), .sh (.int b), .sh (.int a), s] ∧ st = none ∧ ts = natsD r ∧ (∀ d ∈ r, d < b) ∧ nfI b a r = nfI b 0 l ∧ Sz (11 * j + 1) (a : Int) ∧ j + r.length ≤ 5000) (natsD l) ?_ ⟨l, 0, 0, _, rfl, rfl, rfl, hl, rfl, by unfold Sz; decide, by omega⟩ ?_ ?_
  · simp only [e_var, e_rd, e_sr, e_cst, e_op1, e_op2, e_op3, e_chain, e_band, e_bor, e_ife, e_anil, e_acons, e_lst, e_tup, e_bi, e_call, e_calls, e_sget, ls_l, gV_sh, gR_sh, gR_br, gR_ow, gS_sh, gS_br, gO_ow, gF_ow, gF_sh, sm_some, w_asg1, w_asg, w_asgO, w_par, w_ret, w_drop, w_aug, w_mut, w_seti, w_augi, w_pop, w_frz, w_sset, w_ife, w_skip, w_brk, w_cont, w_seq, kq_ret, kq_bk, kq_ct, kl_bk, kl_ret, br_b, decide_eq_true_eq, decide_eq_false_iff_not, Bool.not_eq_true', Bool.not_eq_false', reduceCtorEq, true_implies, false_implies, forall_const, not_true_eq_false, not_false_eq_true, and_true, true_and, implies_true, sm_add, sm_addI, sm_addL, sm_addT, sm_cat, sm_sub, sm_mul, sm_div, sm_mod, sm_pow, sm_neg, sm_lt, sm_le, sm_gt, sm_ge, sm_eqI, sm_neI, sm_eqB, sm_neB, sm_isN, sm_isNotN, sm_truI, sm_truB, sm_truN, sm_truL, sm_truT, sm_not, sm_ixL, sm_ixT, sm_at0, sm_at1, sm_at2, sm_lenL, sm_lenT, sm_abs, sm_int, sm_intB, sm_max2, sm_min2, sm_listL, sm_listT, sm_tupL, sm_tupT, sm_seqL, sm_seqT, sm_lsL, sm_rng1, sm_rng2, sm_rng3, sm_app, sm_rep1, sm_set1, sm_setN, sm_setC, sm_mixN, sm_mixC, sm_isi, sm_isi2, sm_item0, sm_item1, sm_iset0, sm_iset1, wipe_n, wipe_c, List.set_cons_zero, List.set_cons_succ, List.getElem?_cons_zero, List.getElem?_cons_succ, List.length_cons, List.length_nil, Nat.zero_le, Bool.false_eq_true, if_true, if_false, Bool.not_true, Bool.not_false, Bool.not_not]
  · rintro env st ⟨r, a, j, s, rfl, rfl, hr, _, hn, _, _⟩
    have : r = [] := by cases r with
      | nil => rfl
      | cons => cases hr
    subst this
    simp only [e_var, e_rd, e_sr, e_cst, e_op1, e_op2, e_op3, e_chain, e_band, e_bor, e_ife, e_anil, e_acons, e_lst, e_tup, e_bi, e_call, e_calls, e_sget, ls_l, gV_sh, gR_sh, gR_br, gR_ow, gS_sh, gS_br, gO_ow, gF_ow, gF_sh, sm_some, w_asg1, w_asg, w_asgO, w_par, w_ret, w_drop, w_aug, w_mut, w_seti, w_augi, w_pop, w_frz, w_sset, w_ife, w_skip, w_brk, w_cont, w_seq, kq_ret, kq_bk, kq_ct, kl_bk, kl_ret, br_b, decide_eq_true_eq, decide_eq_false_iff_not, Bool.not_eq_true', Bool.not_eq_false', reduceCtorEq, true_implies, false_implies, forall_const, not_true_eq_false, not_false_eq_true, and_true, true_and, implies_true, sm_add, sm_addI, sm_addL, sm_addT, sm_cat, sm_sub, sm_mul, sm_div, sm_mod, sm_pow, sm_neg, sm_lt, sm_le, sm_gt, sm_ge, sm_eqI, sm_neI, sm_eqB, sm_neB, sm_isN, sm_isNotN, sm_truI, sm_truB, sm_truN, sm_truL, sm_truT, sm_not, sm_ixL, sm_ixT, sm_at0, sm_at1, sm_at2, sm_lenL, sm_lenT, sm_abs, sm_int, sm_intB, sm_max2, sm_min2, sm_listL, sm_listT, sm_tupL, sm_tupT, sm_seqL, sm_seqT, sm_lsL, sm_rng1, sm_rng2, sm_rng3, sm_app, sm_rep1, sm_set1, sm_setN, sm_setC, sm_mixN, sm_mixC, sm_isi, sm_isi2, sm_item0, sm_item1, sm_iset0, sm_iset1, wipe_n, wipe_c, List.set_cons_zero, List.set_cons_succ, List.getElem?_cons_zero, List.getElem?_cons_succ, List.length_cons, List.length_nil, Nat.zero_le, Bool.false_eq_true, if_true, if_false, Bool.not_true, Bool.not_false, Bool.not_not, kq_nx]
    rw [← hn]
    rfl
  · rintro t ts env st ⟨r, a, j, s, rfl, rfl, hr, hd, hn, hsz, hj⟩
    cases r with
    | nil => cases hr
    | cons d r =>
      cases hr
      have hd0 := hd d (.head _)
      have sb : Sz 10 (b : Int) := by unfold Sz; omega
      have sd : Sz 10 (d : Int) := by unfold Sz; omega
      have hlc : (d :: r).length = r.length + 1 := rfl
      simp only [e_var, e_rd, e_sr, e_cst, e_op1, e_op2, e_op3, e_chain, e_band, e_bor, e_ife, e_anil, e_acons, e_lst, e_tup, e_bi, e_call, e_calls, e_sget, ls_l, gV_sh, gR_sh, gR_br, gR_ow, gS_sh, gS_br, gO_ow, gF_ow, gF_sh, sm_some, w_asg1, w_asg, w_asgO, w_par, w_ret, w_drop, w_aug, w_mut, w_seti, w_augi, w_pop, w_frz, w_sset, w_ife, w_skip, w_brk, w_cont, w_seq, kq_ret, kq_bk, kq_ct, kl_bk, kl_ret, br_b, decide_eq_true_eq, decide_eq_false_iff_not, Bool.not_eq_true', Bool.not_eq_false', reduceCtorEq, true_implies, false_implies, forall_const, not_true_eq_false, not_false_eq_true, and_true, true_and, implies_true, sm_add, sm_addI, sm_addL, sm_addT, sm_cat, sm_sub, sm_mul, sm_div, sm_mod, sm_pow, sm_neg, sm_lt, sm_le, sm_gt, sm_ge, sm_eqI, sm_neI, sm_eqB, sm_neB, sm_isN, sm_isNotN, sm_truI, sm_truB, sm_truN, sm_truL, sm_truT, sm_not, sm_ixL, sm_ixT, sm_at0, sm_at1, sm_at2, sm_lenL, sm_lenT, sm_abs, sm_int, sm_intB, sm_max2, sm_min2, sm_listL, sm_listT, sm_tupL, sm_tupT, sm_seqL, sm_seqT, sm_lsL, sm_rng1, sm_rng2, sm_rng3, sm_app, sm_rep1, sm_set1, sm_setN, sm_setC, sm_mixN, sm_mixC, sm_isi, sm_isi2, sm_item0, sm_item1, sm_iset0, sm_iset1, wipe_n, wipe_c, List.set_cons_zero, List.set_cons_succ, List.getElem?_cons_zero, List.getElem?_cons_succ, List.length_cons, List.length_nil, Nat.zero_le, Bool.false_eq_true, if_true, if_false, Bool.not_true, Bool.not_false, Bool.not_not]
      refine ⟨mul_ok (hsz.mono (show 11 * j + 1 ≤ 60000 by omega)) sb, r, a * b + d, j + 1, .sh (.int d), ?_, rfl, rfl, fun x hx => hd x (.tail _ hx), hn, ?_, by omega⟩
      · rw [Int.natCast_add, Int.natCast_mul]
      · rw [Int.natCast_add, Int.natCast_mul]
        exact ((((hsz.mul sb).mono (show _ ≤ 11 * j + 11 by omega)).add (sd.mono (by omega))).mono (by omega))
noncomputable def fs_number_of : List D → Option D := FV 2 4 z_number_of
theorem sm_number_of {i : Int} {b : Nat} {l : List Nat} {Q : D → Prop} (e : i = b) (hb : b < 1024) (hl : ∀ d ∈ l, d < b) (hlen : l.length ≤ 5000) (q : Q (.int (nfI b 0 l : Nat))) : Sm (fs_number_of [.tuple (natsD l), .int i]) Q := by
  subst e; exact FV.sm1 rfl (w_number_of hb hl hlen) q
def voP (w b : Nat) (bs rs : List Nat) : Nat := (w * b ^ bs.length + nfI b 0 bs) * (b ^ rs.length - 1) + nfI b 0 rs
def voM (b : Nat) (bs rs : List Nat) : Nat := b ^ bs.length * (b ^ rs.length - 1)
theorem sz_nat {k n : Nat} (h : n < 2 ^ k) : Sz k (n : Int) := by unfold Sz; simpa using h
theorem w_value_of {w b : Nat} {bs rs : List Nat} (hb2 : 2 ≤ b) (hb : b < 1024) (hbs : ∀ d ∈ bs, d < b) (hrs : ∀ d ∈ rs, d < b) (hr : 1 ≤ rs.length) (hlen : bs.length + rs.length ≤ 2400) (hw : w < 1048576) (hs : b ^ (bs.length + rs.length) < 2 ^ 8900) :
    W (z_value_of fs_power fs_number_of) [.sh (.int w), .sh (.tuple (natsD bs)), .sh (.tuple (natsD rs)), .sh (.int b), .no, .no, .no, .no] none (fun o => o = .ret (.tuple [.int (voP w b bs rs / Nat.gcd (voP w b bs rs) (voM b bs rs) : Nat), .int (voM b bs rs / Nat.gcd (voP w b bs rs) (voM b bs rs) : Nat)]) none) := by
  have sb : Sz 10 (b : Int) := by unfold Sz; omega
  have hp1 : 1 ≤ b ^ bs.length := Nat.pow_pos (by omega)
  have hp2 : 2 ≤ b ^ rs.length := Nat.le_trans (by simpa using hb2) (Nat.pow_le_pow_right (by omega) hr)
  rw [Nat.pow_add] at hs
  have hfar : b ^ bs.length < 2 ^ 8900 := Nat.lt_of_le_of_lt (Nat.le_mul_of_pos_right _ (by omega)) hs
  have hnin : b ^ rs.length < 2 ^ 8900 := Nat.lt_of_le_of_lt (Nat.le_mul_of_pos_left _ hp1) hs
  have n1 := nfI_lt (b := b) bs 0 hbs
  have n2 := nfI_lt (b := b) rs 0 hrs
  rw [Nat.zero_add, Nat.one_mul] at n1 n2
  have hM : voM b bs rs < 2 ^ 8900 := Nat.lt_of_le_of_lt (Nat.mul_le_mul_left _ (Nat.sub_le _ _)) hs
  have hM1 : 1 ≤ voM b bs rs := Nat.mul_pos hp1 (by omega)
  have sfar : Sz 8900 ((b ^ bs.length : Nat) : Int) := sz_nat hfar
  have snin : Sz 8900 ((b ^ rs.length - 1 : Nat) : Int) := sz_nat (by omega)
  have sn1 : Sz 8900 ((nfI b 0 bs : Nat) : Int) := sz_nat (by omega)
  have sn2 : Sz 8900 ((nfI b 0 rs : Nat) : Int) := sz_nat (by omega)
  have sw : Sz 20 (w : Int) := by unfold Sz; omega
  unfold z_value_of
  simp only [e_var, e_rd, e_sr, e_cst, e_op1, e_op2, e_op3, e_chain, e_band, e_bor, e_ife, e_anil, e_acons, e_lst, e_tup, e_bi, e_call, e_calls, e_sget, ls_l, gV_sh, gR_sh, gR_br, gR_ow, gS_sh, gS_br, gO_ow, gF_ow, gF_sh, sm_some, w_asg1, w_asg, w_asgO, w_par, w_ret, w_drop, w_aug, w_mut, w_seti, w_augi, w_pop, w_frz, w_sset, w_ife, w_skip, w_brk, w_cont, w_seq, kq_ret, kq_bk, kq_ct, kl_bk, kl_ret, br_b, decide_eq_true_eq, decide_eq_false_iff_not, Bool.not_eq_true', Bool.not_eq_false', reduceCtorEq, true_implies, false_implies, forall_const, not_true_eq_false, not_false_eq_true, and_true, true_and, implies_true, sm_add, sm_addI, sm_addL, sm_addT, sm_cat, sm_sub, sm_mul, sm_div, sm_mod, sm_pow, sm_neg, sm_lt, sm_le, sm_gt, sm_ge, sm_eqI, sm_neI, sm_eqB, sm_neB, sm_isN, sm_isNotN, sm_truI, sm_truB, sm_truN, sm_truL, sm_truT, sm_not, sm_ixL, sm_ixT, sm_at0, sm_at1, sm_at2, sm_lenL, sm_lenT, sm_abs, sm_int, sm_intB, sm_max2, sm_min2, sm_listL, sm_listT, sm_tupL, sm_tupT, sm_seqL, sm_seqT, sm_lsL, sm_rng1, sm_rng2, sm_rng3, sm_app, sm_rep1, sm_set1, sm_setN, sm_setC, sm_mixN, sm_mixC, sm_isi, sm_isi2, sm_item0, sm_item1, sm_iset0, sm_iset1, wipe_n, wipe_c, List.set_cons_zero, List.set_cons_succ, List.getElem?_cons_zero, List.getElem?_cons_succ, List.length_cons, List.length_nil, Nat.zero_le, Bool.false_eq_true, if_true, if_false, Bool.not_true, Bool.not_false, Bool.not_not]
  rw [natsD_len]
  refine sm_power (n := bs.length) (k := 10) rfl sb (by omega) (by omega) ?_
  rw [← Int.natCast_pow, kq_nx]
  simp only [e_var, e_rd, e_sr, e_cst, e_op1, e_op2, e_op3, e_chain, e_band, e_bor, e_ife, e_anil, e_acons, e_lst, e_tup, e_bi, e_call, e_calls, e_sget, ls_l, gV_sh, gR_sh, gR_br, gR_ow, gS_sh, gS_br, gO_ow, gF_ow, gF_sh, sm_some, w_asg1, w_asg, w_asgO, w_par, w_ret, w_drop, w_aug, w_mut, w_seti, w_augi, w_pop, w_frz, w_sset, w_ife, w_skip, w_brk, w_cont, w_seq, kq_ret, kq_bk, kq_ct, kl_bk, kl_ret, br_b, decide_eq_true_eq, decide_eq_false_iff_not, Bool.not_eq_true', Bool.not_eq_false', reduceCtorEq, true_implies, false_implies, forall_const, not_true_eq_false, not_false_eq_true, and_true, true_and, implies_true, sm_add, sm_addI, sm_addL, sm_addT, sm_cat, sm_sub, sm_mul, sm_div, sm_mod, sm_pow, sm_neg, sm_lt, sm_le, sm_gt, sm_ge, sm_eqI, sm_neI, sm_eqB, sm_neB, sm_isN, sm_isNotN, sm_truI, sm_truB, sm_truN, sm_truL, sm_truT, sm_not, sm_ixL, sm_ixT, sm_at0, sm_at1, sm_at2, sm_lenL, sm_lenT, sm_abs, sm_int, sm_intB, sm_max2, sm_min2, sm_listL, sm_listT, sm_tupL, sm_tupT, sm_seqL, sm_seqT, sm_lsL, sm_rng1, sm_rng2, sm_rng3, sm_app, sm_rep1, sm_set1, sm_setN, sm_setC, sm_mixN, sm_mixC, sm_isi, sm_isi2, sm_item0, sm_item1, sm_iset0, sm_iset1, wipe_n, wipe_c, List.set_cons_zero, List.set_cons_succ, List.getElem?_cons_zero, List.getElem?_cons_succ, List.length_cons, List.length_nil, Nat.zero_le, Bool.false_eq_true, if_true, if_false, Bool.not_true, Bool.not_false, Bool.not_not]
  rw [natsD_len]
  refine sm_power (n := rs.length) (k := 10) rfl sb (by omega) (by omega) ?_
  (try simp only [e_var, e_rd, e_sr, e_cst, e_op1, e_op2, e_op3, e_chain, e_band, e_bor, e_ife, e_anil, e_acons, e_lst, e_tup, e_bi, e_call, e_calls, e_sget, ls_l, gV_sh, gR_sh, gR_br, gR_ow, gS_sh, gS_br, gO_ow, gF_ow, gF_sh, sm_some, w_asg1, w_asg, w_asgO, w_par, w_ret, w_drop, w_aug, w_mut, w_seti, w_augi, w_pop, w_frz, w_sset, w_ife, w_skip, w_brk, w_cont, w_seq, kq_ret, kq_bk, kq_ct, kl_bk, kl_ret, br_b, decide_eq_true_eq, decide_eq_false_iff_not, Bool.not_eq_true', Bool.not_eq_false', reduceCtorEq, true_implies, false_implies, forall_const, not_true_eq_false, not_false_eq_true, and_true, true_and, implies_true, sm_add, sm_addI, sm_addL, sm_addT, sm_cat, sm_sub, sm_mul, sm_div, sm_mod, sm_pow, sm_neg, sm_lt, sm_le, sm_gt, sm_ge, sm_eqI, sm_neI, sm_eqB, sm_neB, sm_isN, sm_isNotN, sm_truI, sm_truB, sm_truN, sm_truL, sm_truT, sm_not, sm_ixL, sm_ixT, sm_at0, sm_at1, sm_at2, sm_lenL, sm_lenT, sm_abs, sm_int, sm_intB, sm_max2, sm_min2, sm_listL, sm_listT, sm_tupL, sm_tupT, sm_seqL, sm_seqT, sm_lsL, sm_rng1, sm_rng2, sm_rng3, sm_app, sm_rep1, sm_set1, sm_setN, sm_setC, sm_mixN, sm_mixC, sm_isi, sm_isi2, sm_item0, sm_item1, sm_iset0, sm_iset1, wipe_n, wipe_c, List.set_cons_zero, List.set_cons_succ, List.getElem?_cons_zero, List.getElem?_cons_succ, List.length_cons, List.length_nil, Nat.zero_le, Bool.false_eq_true, if_true, if_false, Bool.not_true, Bool.not_false, Bool.not_not])
  rw [← Int.natCast_pow, show ((b ^ rs.length : Nat) : Int) - 1 = ((b ^ rs.length - 1 : Nat) : Int) by omega, kq_nx]
  simp only [e_var, e_rd, e_sr, e_cst, e_op1, e_op2, e_op3, e_chain, e_band, e_bor, e_ife, e_anil, e_acons, e_lst, e_tup, e_bi, e_call, e_calls, e_sget, ls_l, gV_sh, gR_sh, gR_br, gR_ow, gS_sh, gS_br, gO_ow, gF_ow, gF_sh, sm_some, w_asg1, w_asg, w_asgO, w_par, w_ret, w_drop, w_aug, w_mut, w_seti, w_augi, w_pop, w_frz, w_sset, w_ife, w_skip, w_brk, w_cont, w_seq, kq_ret, kq_bk, kq_ct, kl_bk, kl_ret, br_b, decide_eq_true_eq, decide_eq_false_iff_not, Bool.not_eq_true', Bool.not_eq_false', reduceCtorEq, true_implies, false_implies, forall_const, not_true_eq_false, not_false_eq_true, and_true, true_and, implies_true, sm_add, sm_addI, sm_addL, sm_addT, sm_cat, sm_sub, sm_mul, sm_div, sm_mod, sm_pow, sm_neg, sm_lt, sm_le, sm_gt, sm_ge, sm_eqI, sm_neI, sm_eqB, sm_neB, sm_isN, sm_isNotN, sm_truI, sm_truB, sm_truN, sm_truL, sm_truT, sm_not, sm_ixL, sm_ixT, sm_at0, sm_at1, sm_at2, sm_lenL, sm_lenT, sm_abs, sm_int, sm_intB, sm_max2, sm_min2, sm_listL, sm_listT, sm_tupL, sm_tupT, sm_seqL, sm_seqT, sm_lsL, sm_rng1, sm_rng2, sm_rng3, sm_app, sm_rep1, sm_set1, sm_setN, sm_setC, sm_mixN, sm_mixC, sm_isi, sm_isi2, sm_item0, sm_item1, sm_iset0, sm_iset1, wipe_n, wipe_c, List.set_cons_zero, List.set_cons_succ, List.getElem?_cons_zero, List.getElem?_cons_succ, List.length_cons, List.length_nil, Nat.zero_le, Bool.false_eq_true, if_true, if_false, Bool.not_true, Bool.not_false, Bool.not_not]
  refine ⟨mul_ok sw sfar, sm_number_of rfl hb hbs (by omega) ?_⟩
  (try simp only [e_var, e_rd, e_sr, e_cst, e_op1, e_op2, e_op3, e_chain, e_band, e_bor, e_ife, e_anil, e_acons, e_lst, e_tup, e_bi, e_call, e_calls, e_sget, ls_l, gV_sh, gR_sh, gR_br, gR_ow, gS_sh, gS_br, gO_ow, gF_ow, gF_sh, sm_some, w_asg1, w_asg, w_asgO, w_par, w_ret, w_drop, w_aug, w_mut, w_seti, w_augi, w_pop, w_frz, w_sset, w_ife, w_skip, w_brk, w_cont, w_seq, kq_ret, kq_bk, kq_ct, kl_bk, kl_ret, br_b, decide_eq_true_eq, decide_eq_false_iff_not, Bool.not_eq_true', Bool.not_eq_false', reduceCtorEq, true_implies, false_implies, forall_const, not_true_eq_false, not_false_eq_true, and_true, true_and, implies_true, sm_add, sm_addI, sm_addL, sm_addT, sm_cat, sm_sub, sm_mul, sm_div, sm_mod, sm_pow, sm_neg, sm_lt, sm_le, sm_gt, sm_ge, sm_eqI, sm_neI, sm_eqB, sm_neB, sm_isN, sm_isNotN, sm_truI, sm_truB, sm_truN, sm_truL, sm_truT, sm_not, sm_ixL, sm_ixT, sm_at0, sm_at1, sm_at2, sm_lenL, sm_lenT, sm_abs, sm_int, sm_intB, sm_max2, sm_min2, sm_listL, sm_listT, sm_tupL, sm_tupT, sm_seqL, sm_seqT, sm_lsL, sm_rng1, sm_rng2, sm_rng3, sm_app, sm_rep1, sm_set1, sm_setN, sm_setC, sm_mixN, sm_mixC, sm_isi, sm_isi2, sm_item0, sm_item1, sm_iset0, sm_iset1, wipe_n, wipe_c, List.set_cons_zero, List.set_cons_succ, List.getElem?_cons_zero, List.getElem?_cons_succ, List.length_cons, List.length_nil, Nat.zero_le, Bool.false_eq_true, if_true, if_false, Bool.not_true, Bool.not_false, Bool.not_not])
  refine ⟨mul_ok (((sw.mul sfar).mono (show _ ≤ 8930 by omega)).add (sn1.mono (by omega))) snin, sm_number_of rfl hb hrs (by omega) ?_⟩
  have eP : ((w : Int) * ((b ^ bs.length : Nat) : Int) + ((nfI b 0 bs : Nat) : Int)) * ((b ^ rs.length - 1 : Nat) : Int) + ((nfI b 0 rs : Nat) : Int) = ((voP w b bs rs : Nat) : Int) := by
    unfold voP
    rw [Int.natCast_add, Int.natCast_mul, Int.natCast_add, Int.natCast_mul]
  have eM : ((b ^ bs.length : Nat) : Int) * ((b ^ rs.length - 1 : Nat) : Int) = ((voM b bs rs : Nat) : Int) := by
    unfold voM
    rw [Int.natCast_mul]
  (try simp only [e_var, e_rd, e_sr, e_cst, e_op1, e_op2, e_op3, e_chain, e_band, e_bor, e_ife, e_anil, e_acons, e_lst, e_tup, e_bi, e_call, e_calls, e_sget, ls_l, gV_sh, gR_sh, gR_br, gR_ow, gS_sh, gS_br, gO_ow, gF_ow, gF_sh, sm_some, w_asg1, w_asg, w_asgO, w_par, w_ret, w_drop, w_aug, w_mut, w_seti, w_augi, w_pop, w_frz, w_sset, w_ife, w_skip, w_brk, w_cont, w_seq, kq_ret, kq_bk, kq_ct, kl_bk, kl_ret, br_b, decide_eq_true_eq, decide_eq_false_iff_not, Bool.not_eq_true', Bool.not_eq_false', reduceCtorEq, true_implies, false_implies, forall_const, not_true_eq_false, not_false_eq_true, and_true, true_and, implies_true, sm_add, sm_addI, sm_addL, sm_addT, sm_cat, sm_sub, sm_mul, sm_div, sm_mod, sm_pow, sm_neg, sm_lt, sm_le, sm_gt, sm_ge, sm_eqI, sm_neI, sm_eqB, sm_neB, sm_isN, sm_isNotN, sm_truI, sm_truB, sm_truN, sm_truL, sm_truT, sm_not, sm_ixL, sm_ixT, sm_at0, sm_at1, sm_at2, sm_lenL, sm_lenT, sm_abs, sm_int, sm_intB, sm_max2, sm_min2, sm_listL, sm_listT, sm_tupL, sm_tupT, sm_seqL, sm_seqT, sm_lsL, sm_rng1, sm_rng2, sm_rng3, sm_app, sm_rep1, sm_set1, sm_setN, sm_setC, sm_mixN, sm_mixC, sm_isi, sm_isi2, sm_item0, sm_item1, sm_iset0, sm_iset1, wipe_n, wipe_c, List.set_cons_zero, List.set_cons_succ, List.getElem?_cons_zero, List.getElem?_cons_succ, List.length_cons, List.length_nil, Nat.zero_le, Bool.false_eq_true, if_true, if_false, Bool.not_true, Bool.not_false, Bool.not_not, eP])
  rw [kq_nx]
  simp only [e_var, e_rd, e_sr, e_cst, e_op1, e_op2, e_op3, e_chain, e_band, e_bor, e_ife, e_anil, e_acons, e_lst, e_tup, e_bi, e_call, e_calls, e_sget, ls_l, gV_sh, gR_sh, gR_br, gR_ow, gS_sh, gS_br, gO_ow, gF_ow, gF_sh, sm_some, w_asg1, w_asg, w_asgO, w_par, w_ret, w_drop, w_aug, w_mut, w_seti, w_augi, w_pop, w_frz, w_sset, w_ife, w_skip, w_brk, w_cont, w_seq, kq_ret, kq_bk, kq_ct, kl_bk, kl_ret, br_b, decide_eq_true_eq, decide_eq_false_iff_not, Bool.not_eq_true', Bool.not_eq_false', reduceCtorEq, true_implies, false_implies, forall_const, not_true_eq_false, not_false_eq_true, and_true, true_and, implies_true, sm_add, sm_addI, sm_addL, sm_addT, sm_cat, sm_sub, sm_mul, sm_div, sm_mod, sm_pow, sm_neg, sm_lt, sm_le, sm_gt, sm_ge, sm_eqI, sm_neI, sm_eqB, sm_neB, sm_isN, sm_isNotN, sm_truI, sm_truB, sm_truN, sm_truL, sm_truT, sm_not, sm_ixL, sm_ixT, sm_at0, sm_at1, sm_at2, sm_lenL, sm_lenT, sm_abs, sm_int, sm_intB, sm_max2, sm_min2, sm_listL, sm_listT, sm_tupL, sm_tupT, sm_seqL, sm_seqT, sm_lsL, sm_rng1, sm_rng2, sm_rng3, sm_app, sm_rep1, sm_set1, sm_setN, sm_setC, sm_mixN, sm_mixC, sm_isi, sm_isi2, sm_item0, sm_item1, sm_iset0, sm_iset1, wipe_n, wipe_c, List.set_cons_zero, List.set_cons_succ, List.getElem?_cons_zero, List.getElem?_cons_succ, List.length_cons, List.length_nil, Nat.zero_le, Bool.false_eq_true, if_true, if_false, Bool.not_true, Bool.not_false, Bool.not_not, eM]
  refine ⟨mul_ok sfar snin, sm_gcdB ?_⟩
  have hg0 := Nat.gcd_pos_of_pos_right (voP w b bs rs) hM1
  have hgM := Nat.gcd_le_right (voP w b bs rs) hM1
  have dg : divOk ((Nat.gcd (voP w b bs rs) (voM b bs rs) : Nat) : Int) = true := div_ok (k := 8900) (by omega) (sz_nat (by omega))
  rw [kq_nx]
  simp only [e_var, e_rd, e_sr, e_cst, e_op1, e_op2, e_op3, e_chain, e_band, e_bor, e_ife, e_anil, e_acons, e_lst, e_tup, e_bi, e_call, e_calls, e_sget, ls_l, gV_sh, gR_sh, gR_br, gR_ow, gS_sh, gS_br, gO_ow, gF_ow, gF_sh, sm_some, w_asg1, w_asg, w_asgO, w_par, w_ret, w_drop, w_aug, w_mut, w_seti, w_augi, w_pop, w_frz, w_sset, w_ife, w_skip, w_brk, w_cont, w_seq, kq_ret, kq_bk, kq_ct, kl_bk, kl_ret, br_b, decide_eq_true_eq, decide_eq_false_iff_not, Bool.not_eq_true', Bool.not_eq_false', reduceCtorEq, true_implies, false_implies, forall_const, not_true_eq_false, not_false_eq_true, and_true, true_and, implies_true, sm_add, sm_addI, sm_addL, sm_addT, sm_cat, sm_sub, sm_mul, sm_div, sm_mod, sm_pow, sm_neg, sm_lt, sm_le, sm_gt, sm_ge, sm_eqI, sm_neI, sm_eqB, sm_neB, sm_isN, sm_isNotN, sm_truI, sm_truB, sm_truN, sm_truL, sm_truT, sm_not, sm_ixL, sm_ixT, sm_at0, sm_at1, sm_at2, sm_lenL, sm_lenT, sm_abs, sm_int, sm_intB, sm_max2, sm_min2, sm_listL, sm_listT, sm_tupL, sm_tupT, sm_seqL, sm_seqT, sm_lsL, sm_rng1, sm_rng2, sm_rng3, sm_app, sm_rep1, sm_set1, sm_setN, sm_setC, sm_mixN, sm_mixC, sm_isi, sm_isi2, sm_item0, sm_item1, sm_iset0, sm_iset1, wipe_n, wipe_c, List.set_cons_zero, List.set_cons_succ, List.getElem?_cons_zero, List.getElem?_cons_succ, List.length_cons, List.length_nil, Nat.zero_le, Bool.false_eq_true, if_true, if_false, Bool.not_true, Bool.not_false, Bool.not_not, eM]
  refine ⟨dg, mul_ok sfar snin, dg, by decide, ?_⟩
  rw [Int.natCast_ediv, Int.natCast_ediv]
noncomputable def fs_value_of : List D → Option D := FV 4 8 (z_value_of fs_power fs_number_of)
theorem sm_value_of {i j : Int} {w b : Nat} {bs rs : List Nat} {Q : D → Prop} (ei : i = w) (ej : j = b) (hb2 : 2 ≤ b) (hb : b < 1024) (hbs : ∀ d ∈ bs, d < b) (hrs : ∀ d ∈ rs, d < b) (hr : 1 ≤ rs.length) (hlen : bs.length + rs.length ≤ 2400) (hw : w < 1048576) (hs : b ^ (bs.length + rs.length) < 2 ^ 8900)
    (q : Q (.tuple [.int (voP w b bs rs / Nat.gcd (voP w b bs rs) (voM b bs rs) : Nat), .int (voM b bs rs / Nat.gcd (voP w b bs rs) (voM b bs rs) : Nat)])) : Sm (fs_value_of [.int i, .tuple (natsD bs), .tuple (natsD rs), .int j]) Q := by
  subst ei ej; exact FV.sm1 rfl (w_value_of hb2 hb hbs hrs hr hlen hw hs) q

/-! ### the law's own fractions -/
def frN (p : Int) (q : Nat) : Int := p / (Int.gcd p q : Nat)
def frD (p : Int) (q : Nat) : Nat := q / Int.gcd p q
theorem w__law_frac {p : Int} {q : Nat} (hq : 1 ≤ q) (hs : q < 2 ^ 8900) : W z__law_frac [.sh (.int p), .sh (.int q), .no, .no] none (fun o => o = .ret (.tuple [.int (frN p q), .int (frD p q : Nat)]) none) := by
  unfold z__law_frac
  simp only [e_var, e_rd, e_sr, e_cst, e_op1, e_op2, e_op3, e_chain, e_band, e_bor, e_ife, e_anil, e_acons, e_lst, e_tup, e_bi, e_call, e_calls, e_sget, ls_l, gV_sh, gR_sh, gR_br, gR_ow, gS_sh, gS_br, gO_ow, gF_ow, gF_sh, sm_some, w_asg1, w_asg, w_asgO, w_par, w_ret, w_drop, w_aug, w_mut, w_seti, w_augi, w_pop, w_frz, w_sset, w_ife, w_skip, w_brk, w_cont, w_seq, kq_ret, kq_bk, kq_ct, kl_bk, kl_ret, br_b, decide_eq_true_eq, decide_eq_false_iff_not, Bool.not_eq_true', Bool.not_eq_false', reduceCtorEq, true_implies, false_implies, forall_const, not_true_eq_false, not_false_eq_true, and_true, true_and, implies_true, sm_add, sm_addI, sm_addL, sm_addT, sm_cat, sm_sub, sm_mul, sm_div, sm_mod, sm_pow, sm_neg, sm_lt, sm_le, sm_gt, sm_ge, sm_eqI, sm_neI, sm_eqB, sm_neB, sm_isN, sm_isNotN, sm_truI, sm_truB, sm_truN, sm_truL, sm_truT, sm_not, sm_ixL, sm_ixT, sm_at0, sm_at1, sm_at2, sm_lenL, sm_lenT, sm_abs, sm_int, sm_intB, sm_max2, sm_min2, sm_listL, sm_listT, sm_tupL, sm_tupT, sm_seqL, sm_seqT, sm_lsL, sm_rng1, sm_rng2, sm_rng3, sm_app, sm_rep1, sm_set1, sm_setN, sm_setC, sm_mixN, sm_mixC, sm_isi, sm_isi2, sm_item0, sm_item1, sm_iset0, sm_iset1, wipe_n, wipe_c, List.set_cons_zero, List.set_cons_succ, List.getElem?_cons_zero, List.getElem?_cons_succ, List.length_cons, List.length_nil, Nat.zero_le, Bool.false_eq_true, if_true, if_false, Bool.not_true, Bool.not_false, Bool.not_not, kq_nx]
  rw [show (if p < 0 then -p else p) = ((p.natAbs : Nat) : Int) by split <;> omega, if_neg (by omega)]
  refine W.whl (fun m env st => ∃ x y : Nat, env = [.sh (.int p), .sh (.int q), .sh (.int x), .sh (.int y)] ∧ st = none ∧ Nat.gcd x y = Nat.gcd p.natAbs q ∧ m = y + 1) (q + 1) ⟨p.natAbs, q, rfl, rfl, rfl, rfl⟩ ?_
  rintro m env st ⟨x, y, rfl, rfl, hg, rfl⟩
  simp only [e_var, e_rd, e_sr, e_cst, e_op1, e_op2, e_op3, e_chain, e_band, e_bor, e_ife, e_anil, e_acons, e_lst, e_tup, e_bi, e_call, e_calls, e_sget, ls_l, gV_sh, gR_sh, gR_br, gR_ow, gS_sh, gS_br, gO_ow, gF_ow, gF_sh, sm_some, w_asg1, w_asg, w_asgO, w_par, w_ret, w_drop, w_aug, w_mut, w_seti, w_augi, w_pop, w_frz, w_sset, w_ife, w_skip, w_brk, w_cont, w_seq, kq_ret, kq_bk, kq_ct, kl_bk, kl_ret, br_b, decide_eq_true_eq, decide_eq_false_iff_not, Bool.not_eq_true', Bool.not_eq_false', reduceCtorEq, true_implies, false_implies, forall_const, not_true_eq_false, not_false_eq_true, and_true, true_and, implies_true, sm_add, sm_addI, sm_addL, sm_addT, sm_cat, sm_sub, sm_mul, sm_div, sm_mod, sm_pow, sm_neg, sm_lt, sm_le, sm_gt, sm_ge, sm_eqI, sm_neI, sm_eqB, sm_neB, sm_isN, sm_isNotN, sm_truI, sm_truB, sm_truN, sm_truL, sm_truT, sm_not, sm_ixL, sm_ixT, sm_at0, sm_at1, sm_at2, sm_lenL, sm_lenT, sm_abs, sm_int, sm_intB, sm_max2, sm_min2, sm_listL, sm_listT, sm_tupL, sm_tupT, sm_seqL, sm_seqT, sm_lsL, sm_rng1, sm_rng2, sm_rng3, sm_app, sm_rep1, sm_set1, sm_setN, sm_setC, sm_mixN, sm_mixC, sm_isi, sm_isi2, sm_item0, sm_item1, sm_iset0, sm_iset1, wipe_n, wipe_c, List.set_cons_zero, List.set_cons_succ, List.getElem?_cons_zero, List.getElem?_cons_succ, List.length_cons, List.length_nil, Nat.zero_le, Bool.false_eq_true, if_true, if_false, Bool.not_true, Bool.not_false, Bool.not_not, kq_nx]
  refine ⟨fun h0 => ⟨h0, x % y + 1, ?_, y, x % y, ?_, rfl, ?_, rfl⟩, fun h0 => ⟨fun h1 => ?_, fun h1 => by omega⟩⟩
  · have := Nat.mod_lt x (show 0 < y by omega); omega
  · rw [Int.natCast_emod]
  · rw [← hg, Nat.gcd_comm x y, Nat.gcd_comm y, ← Nat.gcd_rec]
  · have : y = 0 := by omega
    subst this
    rw [Nat.gcd_zero_right] at hg
    have hx : x = Int.gcd p q := hg
    have hx0 : 0 < x := by rw [hg]; exact Nat.gcd_pos_of_pos_right _ hq
    have hxq : x ≤ q := by rw [hg]; exact Nat.gcd_le_right _ hq
    have d : divOk (x : Int) = true := div_ok (k := 8900) (by omega) (sz_nat (by omega))
    refine ⟨d, d, by decide, ?_⟩
    rw [hx]
    unfold frN frD
    rw [Int.natCast_ediv]
noncomputable def fs__law_frac : List D → Option D := FV 2 4 z__law_frac
theorem sm__law_frac {i j : Int} {p : Int} {q : Nat} {Q : D → Prop} (ei : i = p) (ej : j = q) (hq : 1 ≤ q) (hs : q < 2 ^ 8900) (qq : Q (.tuple [.int (frN p q), .int (frD p q : Nat)])) : Sm (fs__law_frac [.int i, .int j]) Q := by
  subst ei ej; exact FV.sm1 rfl (w__law_frac hq hs) qq
noncomputable def fs__law_add : List D → Option D := FV 2 2 (z__law_add fs__law_frac)
theorem sm__law_add {a b c d : Int} {p : Int} {q : Nat} {Q : D → Prop} (h1 : mulOk a d = true) (h2 : mulOk c b = true) (h3 : mulOk b d = true) (ep : a * d + c * b = p) (eq : b * d = q) (hq : 1 ≤ q) (hs : q < 2 ^ 8900) (qq : Q (.tuple [.int (frN p q), .int (frD p q : Nat)])) : Sm (fs__law_add [.tuple [.int a, .int b], .tuple [.int c, .int d]]) Q := by
  refine FV.sm1 (r := .tuple [.int (frN p q), .int (frD p q : Nat)]) (st := none) rfl ?_ qq
  show W _ [.sh (.tuple [.int a, .int b]), .sh (.tuple [.int c, .int d])] _ _
  unfold z__law_add
  simp only [e_var, e_rd, e_sr, e_cst, e_op1, e_op2, e_op3, e_chain, e_band, e_bor, e_ife, e_anil, e_acons, e_lst, e_tup, e_bi, e_call, e_calls, e_sget, ls_l, gV_sh, gR_sh, gR_br, gR_ow, gS_sh, gS_br, gO_ow, gF_ow, gF_sh, sm_some, w_asg1, w_asg, w_asgO, w_par, w_ret, w_drop, w_aug, w_mut, w_seti, w_augi, w_pop, w_frz, w_sset, w_ife, w_skip, w_brk, w_cont, w_seq, kq_ret, kq_bk, kq_ct, kl_bk, kl_ret, br_b, decide_eq_true_eq, decide_eq_false_iff_not, Bool.not_eq_true', Bool.not_eq_false', reduceCtorEq, true_implies, false_implies, forall_const, not_true_eq_false, not_false_eq_true, and_true, true_and, implies_true, sm_add, sm_addI, sm_addL, sm_addT, sm_cat, sm_sub, sm_mul, sm_div, sm_mod, sm_pow, sm_neg, sm_lt, sm_le, sm_gt, sm_ge, sm_eqI, sm_neI, sm_eqB, sm_neB, sm_isN, sm_isNotN, sm_truI, sm_truB, sm_truN, sm_truL, sm_truT, sm_not, sm_ixL, sm_ixT, sm_at0, sm_at1, sm_at2, sm_lenL, sm_lenT, sm_abs, sm_int, sm_intB, sm_max2, sm_min2, sm_listL, sm_listT, sm_tupL, sm_tupT, sm_seqL, sm_seqT, sm_lsL, sm_rng1, sm_rng2, sm_rng3, sm_app, sm_rep1, sm_set1, sm_setN, sm_setC, sm_mixN, sm_mixC, sm_isi, sm_isi2, sm_item0, sm_item1, sm_iset0, sm_iset1, wipe_n, wipe_c, List.set_cons_zero, List.set_cons_succ, List.getElem?_cons_zero, List.getElem?_cons_succ, List.length_cons, List.length_nil, Nat.zero_le, Bool.false_eq_true, if_true, if_false, Bool.not_true, Bool.not_false, Bool.not_not]
  refine ⟨h1, h2, h3, sm__law_frac ep eq hq hs ?_⟩
  rfl
theorem fr_scale {p : Int} {q k : Nat} (hk : 1 ≤ k) (hq : 1 ≤ q) : frN (p * k) (q * k) = frN p q ∧ frD (p * k) (q * k) = frD p q := by
  have hg : Int.gcd (p * (k : Int)) ((q * k : Nat) : Int) = Int.gcd p q * k := by
    rw [Int.natCast_mul, Int.gcd_mul_right]; simp
  have hg0 : 0 < Int.gcd p q := Nat.gcd_pos_of_pos_right _ hq
  unfold frN frD
  rw [hg]
  constructor
  · rw [Int.natCast_mul]
    exact Int.mul_ediv_mul_of_pos_left p _ (by omega)
  · exact Nat.mul_div_mul_right q _ hk
theorem fr_eq {p r : Int} {q s : Nat} (hq : 1 ≤ q) (hs : 1 ≤ s) (e : p * s = r * q) : frN p q = frN r s ∧ frD p q = frD r s := by
  have h1 := fr_scale (p := p) (q := q) (k := s) hs hq
  have h2 := fr_scale (p := r) (q := s) (k := q) hq hs
  rw [e, Nat.mul_comm q s] at h1
  exact ⟨h1.1.symm.trans h2.1, h1.2.symm.trans h2.2⟩
end ZC
namespace ZC
open PySem PySem.Spec PyProof.Rows L2 Z ZM

theorem Lk.iff {b u k j : Nat} (h : Lk b u k) : u ∣ b ^ j ↔ k ≤ j :=
  ⟨fun c => Nat.le_of_not_lt fun d => h.min j d c, fun c => Nat.dvd_trans h.dvd (Nat.pow_dvd_pow b c)⟩
theorem IsCop.sq {b q l u : Nat} (h : IsCop b q l u) : IsCop (b * b) q l u := by
  obtain ⟨K, h1, h2⟩ := h.sm
  refine ⟨h.mul, Nat.Coprime.mul_right h.cop h.cop, K, h1, Nat.dvd_trans h2 ?_⟩
  rw [Nat.mul_pow]
  exact Nat.dvd_mul_right _ _
theorem sq_pow (b j : Nat) : (b * b) ^ j = b ^ (2 * j) := by rw [Nat.pow_mul, Nat.pow_two]
theorem Lk.sq {b u k : Nat} (h : Lk b u k) : Lk (b * b) u ((k + 1) / 2) := by
  refine ⟨?_, fun j hj hd => ?_⟩
  · rw [sq_pow, h.iff]; omega
  · rw [sq_pow, h.iff] at hd; omega
theorem IsOrd.sq {b l d : Nat} (h : IsOrd b l d) : IsOrd (b * b) l (d / Nat.gcd d 2) := by
  have hp := h.pos
  have key : ∀ e, (b * b) ^ e % l = 1 % l ↔ d ∣ 2 * e := fun e => by rw [sq_pow, h.iff]
  have hg2 : Nat.gcd d 2 = 1 ∨ Nat.gcd d 2 = 2 := by
    have h1 := Nat.gcd_le_right d (show 0 < 2 by decide)
    have h2 := Nat.gcd_pos_of_pos_left 2 hp
    omega
  have key2 : ∀ e, (b * b) ^ e % l = 1 % l ↔ d / Nat.gcd d 2 ∣ e := fun e => by
    rw [key]
    rcases hg2 with g | g
    · rw [g, Nat.div_one]
      exact ⟨fun c => Nat.Coprime.dvd_of_dvd_mul_left (show Nat.Coprime d 2 from g) c, fun c => Nat.dvd_trans c (Nat.dvd_mul_left e 2)⟩
    · rw [g]
      obtain ⟨c, hc⟩ : 2 ∣ d := by rw [← g]; exact Nat.gcd_dvd_left d 2
      rw [hc, Nat.mul_div_cancel_left _ (by decide)]
      exact Nat.mul_dvd_mul_iff_left (by decide)
  have hpos : 1 ≤ d / Nat.gcd d 2 := by
    rcases hg2 with g | g <;> rw [g]
    · omega
    · have := Nat.le_of_dvd hp (show 2 ∣ d by rw [← g]; exact Nat.gcd_dvd_left d 2)
      omega
  exact ⟨hpos, (key2 _).mpr (Nat.dvd_refl _), fun e h1 h2 h3 => by have := Nat.le_of_dvd h1 ((key2 e).mp h3); omega⟩

theorem xR_per {p q b a k : Nat} (h : IsExp p q b a k) : ∀ i, a ≤ i → xR p q b (i + (k - a)) = xR p q b i := by
  intro i hi
  induction i with
  | zero =>
    have : a = 0 := by omega
    subst this
    rw [Nat.zero_add, Nat.sub_zero]; exact h.eq.symm
  | succ i ih =>
    by_cases c : a = i + 1
    · subst c
      rw [show i + 1 + (k - (i + 1)) = k by have := h.lt; omega]
      exact h.eq.symm
    · rw [show i + 1 + (k - a) = (i + (k - a)) + 1 by omega, xR_succ, ih (by omega), ← xR_succ]
theorem xF_per {p q b a k : Nat} (h : IsExp p q b a k) {i : Nat} (hi : a ≤ i) : xF p q b (i + (k - a)) = xF p q b i := by
  unfold xF; rw [xR_per h i hi]
theorem xFs_shift {p q b a k : Nat} (h : IsExp p q b a k) {lo n : Nat} (hl : a ≤ lo) : xFs p q b (lo + (k - a)) n = xFs p q b lo n := by
  unfold xFs
  apply List.ext_getElem (by simp)
  intro i h1 h2
  simp only [List.getElem_map, List.getElem_range', Nat.one_mul]
  rw [show lo + (k - a) + i = lo + i + (k - a) by omega]
  exact xF_per h (by omega)
theorem xFs_rep {p q b a k : Nat} (h : IsExp p q b a k) : ∀ n, (List.replicate n (xFs p q b a (k - a))).flatten = xFs p q b a (n * (k - a))
  | 0 => by rw [Nat.zero_mul]; rfl
  | n + 1 => by
    rw [List.replicate_succ, List.flatten_cons, xFs_rep h n, xFs_split (a := k - a) (n := (n + 1) * (k - a)) (by rw [Nat.add_mul]; omega), xFs_shift h (Nat.le_refl _)]
    congr 2
    rw [Nat.add_mul]; omega
theorem xFs_far {p q b a k : Nat} (h : IsExp p q b a k) (n : Nat) : xFs p q b 0 a ++ (List.replicate n (xFs p q b a (k - a))).flatten = xFs p q b 0 (a + n * (k - a)) := by
  rw [xFs_rep h, xFs_split (a := a) (n := a + n * (k - a)) (by omega), Nat.zero_add]
  congr 2
  omega
theorem natsD_rep (n : Nat) (l : List Nat) : (List.replicate n (natsD l)).flatten = natsD (List.replicate n l).flatten := by
  induction n with
  | zero => rfl
  | succ n ih => rw [List.replicate_succ, List.flatten_cons, ih, natsD_app, List.replicate_succ, List.flatten_cons]
theorem natsD_take (n : Nat) (l : List Nat) : (natsD l).take n = natsD (l.take n) := by unfold natsD; rw [List.map_take]
theorem natsD_drop (n : Nat) (l : List Nat) : (natsD l).drop n = natsD (l.drop n) := by unfold natsD; rw [List.map_drop]
theorem xFs_get {p q b lo n j : Nat} (h : j < n) : (xFs p q b lo n)[j]? = some (xF p q b (lo + j)) := by
  unfold xFs
  rw [List.getElem?_map, List.getElem?_range' h]
  simp
theorem xFs_take {p q b lo n m : Nat} (h : m ≤ n) : (xFs p q b lo n).take m = xFs p q b lo m := by
  rw [xFs_split h, List.take_left' xFs_len]
theorem xFs_drop {p q b lo n m : Nat} (h : m ≤ n) : (xFs p q b lo n).drop m = xFs p q b (lo + m) (n - m) := by
  rw [xFs_split h, List.drop_left' xFs_len]
theorem xR_sq {p q b i : Nat} : xR p q (b * b) i = xR p q b (2 * i) := by unfold xR; rw [sq_pow]
theorem xF_sq {p q b i : Nat} (hq : 1 ≤ q) : xF p q (b * b) i = xF p q b (2 * i) * b + xF p q b (2 * i + 1) := by
  unfold xF
  rw [xR_sq, xR_succ]
  generalize xR p q b (2 * i) = r
  rw [← Nat.mul_assoc]
  have h := Nat.div_add_mod (r * b) q
  generalize r * b / q = x at *
  generalize r * b % q = y at *
  rw [← h, Nat.add_mul, Nat.mul_assoc, Nat.mul_comm q, Nat.add_comm, Nat.add_mul_div_right _ _ hq, Nat.add_comm]
theorem xR_mul {p q b i : Nat} : xR (p * b) q b i = xR p q b (i + 1) := by
  unfold xR
  rw [Nat.pow_succ, Nat.mul_assoc, Nat.mul_comm b]
theorem xF_mul {p q b i : Nat} : xF (p * b) q b i = xF p q b (i + 1) := by unfold xF; rw [xR_mul]
theorem xFs_mul {p q b lo n : Nat} : xFs (p * b) q b lo n = xFs p q b (lo + 1) n := by
  unfold xFs
  apply List.ext_getElem (by simp)
  intro i h1 h2
  simp only [List.getElem_map, List.getElem_range', Nat.one_mul]
  rw [xF_mul]
  congr 1
  omega
theorem xR_zero {p q b a : Nat} (h : xR p q b a = 0) : xR p q b (a + 1) = 0 := by rw [xR_succ, h, Nat.zero_mul, Nat.zero_mod]
theorem xR_iff {g l h b a : Nat} (hg : 1 ≤ g) (hc : Nat.Coprime h l) : xR (g * l) (g * h) b a = 0 ↔ h ∣ b ^ a := by
  unfold xR
  rw [Nat.mul_assoc, ← Nat.dvd_iff_mod_eq_zero, Nat.mul_dvd_mul_iff_left hg]
  exact ⟨fun c => hc.dvd_of_dvd_mul_left c, fun c => Nat.dvd_trans c (Nat.dvd_mul_left _ _)⟩
theorem ends_iff {p q b a k : Nat} (hq : 1 ≤ q) (hb : 2 ≤ b) (h : IsExp p q b a k) : xFs p q b a (k - a) = [0] ↔ xR p q b a = 0 := by
  have hlt := h.lt
  constructor
  · intro e
    have hl := congrArg List.length e
    rw [xFs_len] at hl
    have hk : k = a + 1 := by simp at hl; omega
    subst hk
    have e0 : xF p q b a = 0 := by
      have : (xFs p q b a (a + 1 - a))[0]? = some (xF p q b (a + 0)) := xFs_get (by omega)
      rw [e] at this
      simpa using this.symm
    have e1 := h.eq
    rw [xR_succ] at e1
    unfold xF at e0
    have e2 : xR p q b a * b < q := by
      apply Nat.lt_of_not_le
      intro c
      have := Nat.div_le_div_right (c := q) c
      rw [Nat.div_self hq] at this
      omega
    rw [Nat.mod_eq_of_lt e2] at e1
    have : xR p q b a * 2 ≤ xR p q b a * b := Nat.mul_le_mul_left _ hb
    omega
  · intro e
    have e1 := xR_zero e
    have hk : k = a + 1 := by
      apply Nat.le_antisymm _ hlt
      apply Nat.le_of_not_lt
      intro c
      exact h.ne a (a + 1) (by omega) c (by rw [e, e1])
    subst hk
    rw [show a + 1 - a = 1 by omega]
    show [xF p q b a] = [0]
    unfold xF
    rw [e, Nat.zero_mul, Nat.zero_div]
theorem xR_ord {g l h b d i j : Nat} (hg : 1 ≤ g) (hc : Nat.Coprime h l) (hb : Nat.Coprime h b) (hb1 : 1 ≤ b) (o : IsOrd b h d) (hij : i ≤ j) : xR (g * l) (g * h) b i = xR (g * l) (g * h) b j ↔ d ∣ j - i := by
  obtain ⟨n, rfl⟩ := Nat.exists_eq_add_of_le hij
  rw [Nat.add_sub_cancel_left, ← o.iff]
  have hp : 1 ≤ b ^ n := Nat.pow_pos hb1
  have hle : g * l * b ^ i ≤ g * l * b ^ (i + n) := Nat.mul_le_mul_left _ (Nat.pow_le_pow_right hb1 (by omega))
  have e1 : g * l * b ^ (i + n) - g * l * b ^ i = g * (l * b ^ i * (b ^ n - 1)) := by
    obtain ⟨m, hm⟩ : ∃ m, b ^ n = m + 1 := ⟨b ^ n - 1, by omega⟩
    rw [Nat.pow_add, hm, Nat.add_sub_cancel]
    have : g * l * (b ^ i * (m + 1)) = g * (l * b ^ i * m) + g * l * b ^ i := by grind
    omega
  have e2 : b ^ n % h = 1 % h ↔ h ∣ b ^ n - 1 := ⟨fun c => (modeq_dvd hp).mp c.symm, fun c => ((modeq_dvd hp).mpr c).symm⟩
  rw [e2]
  unfold xR
  rw [modeq_dvd hle, e1, Nat.mul_dvd_mul_iff_left hg]
  constructor
  · intro c
    have : Nat.Coprime h (l * b ^ i) := Nat.Coprime.mul_right hc (Nat.Coprime.pow_right i hb)
    exact this.dvd_of_dvd_mul_left c
  · intro c
    exact Nat.dvd_trans c (Nat.dvd_mul_left _ _)
theorem exp_ord {g l h b d a k : Nat} (hg : 1 ≤ g) (hc : Nat.Coprime h l) (hb : Nat.Coprime h b) (hb1 : 1 ≤ b) (o : IsOrd b h d) (e : IsExp (g * l) (g * h) b a k) : a = 0 ∧ k = d := by
  have hlt := e.lt
  have hd : d ∣ k - a := (xR_ord hg hc hb hb1 o (Nat.le_of_lt hlt)).mp e.eq
  have ha : a = 0 := by
    apply Nat.eq_zero_of_not_pos
    intro c
    refine e.ne (a - 1) (k - 1) (by omega) (by omega) ((xR_ord hg hc hb hb1 o (by omega)).mpr ?_)
    rw [show k - 1 - (a - 1) = k - a by omega]
    exact hd
  subst ha
  rw [Nat.sub_zero] at hd
  refine ⟨rfl, ?_⟩
  have hle := Nat.le_of_dvd hlt hd
  apply Nat.le_antisymm _ hle
  apply Nat.le_of_not_lt
  intro c
  exact e.ne 0 d o.pos c ((xR_ord hg hc hb hb1 o (Nat.zero_le d)).mpr (by simp))
theorem IsExp.uniq {p q b a k a' k' : Nat} (h : IsExp p q b a k) (h' : IsExp p q b a' k') : a = a' ∧ k = k' := by
  have l := h.lt
  have l' := h'.lt
  have hk : k = k' := by
    rcases Nat.lt_trichotomy k k' with c | c | c
    · exact absurd h.eq (h'.ne a k l c)
    · exact c
    · exact absurd h'.eq (h.ne a' k' l' c)
  subst hk
  refine ⟨?_, rfl⟩
  rcases Nat.lt_trichotomy a a' with c | c | c
  · exact absurd (h.eq.trans h'.eq.symm) (h.ne a a' c l')
  · exact c
  · exact absurd (h'.eq.trans h.eq.symm) (h.ne a' a c l)
theorem xR_compl {p q b i : Nat} (hp : p ≤ q) (hq : 1 ≤ q) (h : xR p q b i ≠ 0) : xR (q - p) q b i = q - xR p q b i := by
  unfold xR at *
  have e : (q - p) * b ^ i + p * b ^ i = q * b ^ i := by rw [← Nat.add_mul]; congr 1; omega
  have h1 := Nat.mod_lt (p * b ^ i) hq
  have h2 := Nat.mod_lt ((q - p) * b ^ i) hq
  have h3 : ((q - p) * b ^ i % q + p * b ^ i % q) % q = 0 := by
    rw [← Nat.add_mod, e, Nat.mul_mod_right]
  generalize (q - p) * b ^ i % q = x at *
  generalize p * b ^ i % q = y at *
  by_cases c : x + y < q
  · rw [Nat.mod_eq_of_lt c] at h3; omega
  · have : (x + y) % q = x + y - q := by
      rw [Nat.mod_eq_sub_mod (by omega), Nat.mod_eq_of_lt (by omega)]
    omega
theorem exp_compl {p q b k : Nat} (hp : p ≤ q) (hq : 1 ≤ q) (hb : 1 ≤ b) (e : IsExp p q b 0 k) (h0 : xR p q b 0 ≠ 0) : IsExp (q - p) q b 0 k ∧ ∀ i, i < k → xF (q - p) q b i = b - 1 - xF p q b i := by
  have hlt := e.lt
  have zs : ∀ i j, xR p q b i = 0 → i ≤ j → xR p q b j = 0 := fun i j h hij => by
    obtain ⟨n, rfl⟩ := Nat.exists_eq_add_of_le hij
    induction n with
    | zero => exact h
    | succ n ih => exact xR_zero (ih (by omega))
  have nz : ∀ i, i ≤ k → xR p q b i ≠ 0 := fun i hi c => h0 (by rw [e.eq]; exact zs i k c hi)
  have hc : ∀ i, i ≤ k → xR (q - p) q b i = q - xR p q b i := fun i hi => xR_compl hp hq (nz i hi)
  refine ⟨⟨hlt, by rw [hc 0 (by omega), hc k (Nat.le_refl _), e.eq], fun i j h1 h2 h3 => ?_, e.le⟩, fun i hi => ?_⟩
  · rw [hc i (by omega), hc j (by omega)] at h3
    have := xR_lt (p := p) (b := b) (i := i) hq
    have := xR_lt (p := p) (b := b) (i := j) hq
    exact e.ne i j h1 h2 (by omega)
  · have hn := nz (i + 1) (by omega)
    have hl := xR_lt (p := p) (b := b) (i := i) hq
    unfold xF
    rw [hc i (by omega)]
    rw [xR_succ] at hn
    generalize xR p q b i = r at *
    have hdm := Nat.div_add_mod (r * b) q
    have hml := Nat.mod_lt (r * b) hq
    have hx : r * b / q < b := by
      apply (Nat.div_lt_iff_lt_mul hq).mpr
      rw [Nat.mul_comm b]
      exact Nat.mul_lt_mul_of_pos_right hl hb
    generalize r * b / q = x at *
    generalize r * b % q = y at *
    have esub : (q - r) * b = q * b - r * b := Nat.sub_mul ..
    have hle := Nat.mul_le_mul_right b (Nat.le_of_lt hl)
    rw [esub]
    apply Nat.div_eq_of_lt_le
    · have : (b - 1 - x) * q + q * x + q = q * b := by
        have : b = (b - 1 - x) + x + 1 := by omega
        conv => rhs; rw [this]
        grind
      omega
    · have : (b - 1 - x + 1) * q + q * x = q * b := by
        have : b = (b - 1 - x) + x + 1 := by omega
        conv => rhs; rw [this]
        grind
      omega
theorem vo_fr (P M : Nat) : ((P / Nat.gcd P M : Nat) : Int) = frN P M ∧ M / Nat.gcd P M = frD P M := by
  unfold frN frD
  rw [Int.gcd_natCast_natCast, Int.natCast_ediv]
  exact ⟨rfl, rfl⟩
theorem fr_cross {p : Int} {q : Nat} (hq : 1 ≤ q) : frN p q * (q : Int) = p * (frD p q : Nat) := by
  unfold frN frD
  have h1 : ((Int.gcd p q : Nat) : Int) ∣ p := Int.gcd_dvd_left ..
  have h2 : Int.gcd p q ∣ q := by
    have := Int.gcd_dvd_right p (q : Int)
    exact Int.natCast_dvd_natCast.mp this
  have h0 : 0 < Int.gcd p q := Nat.gcd_pos_of_pos_right _ hq
  obtain ⟨x, hx⟩ := h1
  obtain ⟨y, hy⟩ := h2
  generalize Int.gcd p q = g at *
  rw [hx, hy, Int.mul_ediv_cancel_left _ (by omega), Nat.mul_div_cancel_left _ h0, Int.natCast_mul]
  grind
theorem frD_pos {p : Int} {q : Nat} (hq : 1 ≤ q) : 1 ≤ frD p q := by
  have h2 : Int.gcd p q ∣ q := Int.natCast_dvd_natCast.mp (Int.gcd_dvd_right p (q : Int))
  have h0 : 0 < Int.gcd p q := Nat.gcd_pos_of_pos_right _ hq
  exact Nat.div_pos (Nat.le_of_dvd hq h2) h0
theorem frD_le {p : Int} {q : Nat} : frD p q ≤ q := Nat.div_le_self _ _
theorem fr_low {p q : Nat} (hq : 1 ≤ q) : ∃ g l h : Nat, 1 ≤ g ∧ p = g * l ∧ q = g * h ∧ Nat.Coprime h l ∧ frN p q = (l : Int) ∧ frD p q = h ∧ 1 ≤ h := by
  have hg0 : 0 < Nat.gcd p q := Nat.gcd_pos_of_pos_right _ hq
  obtain ⟨l, hl⟩ := Nat.gcd_dvd_left p q
  obtain ⟨h, hh⟩ := Nat.gcd_dvd_right p q
  refine ⟨Nat.gcd p q, l, h, hg0, hl, hh, ?_, ?_, ?_, ?_⟩
  · have : Nat.gcd (p / Nat.gcd p q) (q / Nat.gcd p q) = 1 := Nat.gcd_div_gcd_div_gcd_of_pos_right hq
    rw [show p / Nat.gcd p q = l from Nat.div_eq_of_eq_mul_right hg0 hl, show q / Nat.gcd p q = h from Nat.div_eq_of_eq_mul_right hg0 hh] at this
    exact Nat.Coprime.symm this
  · rw [← (vo_fr p q).1, Nat.div_eq_of_eq_mul_right hg0 hl]
  · rw [← (vo_fr p q).2, Nat.div_eq_of_eq_mul_right hg0 hh]
  · rcases Nat.eq_zero_or_pos h with c | c
    · rw [c, Nat.mul_zero] at hh; omega
    · exact c
end ZC
namespace K61
open PySem PySem.Spec PyProof.Rows L2 Z
def topS (i : Nat) : Stmt := PySem.Challenge.pw_divisorhouse_k61_whole_figures_in_other.main.body.getD i (.Pass ⟨0, 0, 0, 0⟩)
abbrev s_power : Stmt := topS 2
abbrev N_power : List Str := ["base", "n", "told"]
theorem sc_power : FnScope N_power ["base", "n"] (defScope s_power) := ⟨rfl, rfl, rfl, by decide +kernel, rfl, by decide +kernel, by decide +kernel⟩
abbrev C_power  : Ct := ⟨[], [], false⟩
def z_power  : ZS := (.seq (.asg (.one 2) (.cst (.int 1))) 
  (.seq (.whl (.op2 dGt (.rd 1) (.cst (.int 0))) 
  (.seq (.ife (.op2 dEq (.op2 dMod (.rd 1) (.cst (.int 2))) (.cst (.int 1))) 
  (.asg (.one 2) (.op2 dMul (.rd 2) (.rd 0))) .skip) 
  (.seq (.asg (.one 0) (.op2 dMul (.rd 0) (.rd 0))) 
  (.asg (.one 1) (.op2 dDiv (.rd 1) (.cst (.int 2))))))) 
  (.ret (.var 2))))
theorem d_power  : QSs (C_power ) N_power (defScope s_power) (defBody s_power) (z_power ) :=
  (qss_cons (qs_asg 2 qe_int) (qss_cons (qs_whl (qt_cmp o_gt (qr_rd 1) qe_int.r) (qss_cons (qs_ife (qt_cmp o_eq (qe_op o_mod (qr_rd 1) qe_int.r).r qe_int.r) (qss_one (qs_asg 2 (qe_op o_mul (qr_rd 2) (qr_rd 0)))) qss_nil) (qss_cons (qs_asg 0 (qe_op o_mul (qr_rd 0) (qr_rd 0))) (qss_one (qs_asg 1 (qe_op o_div (qr_rd 1) qe_int.r)))))) (qss_one (qs_ret (qe_var 2)))))
abbrev s_prime_powers : Stmt := topS 4
abbrev N_prime_powers : List Str := ["n", "told", "p", "k"]
theorem sc_prime_powers : FnScope N_prime_powers ["n"] (defScope s_prime_powers) := ⟨rfl, rfl, rfl, by decide +kernel, rfl, by decide +kernel, by decide +kernel⟩
abbrev C_prime_powers  : Ct := ⟨[], [], false⟩
def z_prime_powers  : ZS := (.seq (.asgO 1 (.lst .anil)) 
  (.seq (.asg (.one 2) (.cst (.int 2))) 
  (.seq (.whl (.op2 dLe (.op2 dMul (.rd 2) (.rd 2)) (.rd 0)) 
  (.seq (.asg (.one 3) (.cst (.int 0))) 
  (.seq (.whl (.op2 dEq (.op2 dMod (.rd 0) (.rd 2)) (.cst (.int 0))) 
  (.par [(0, false), (3, false)] (.acons (.op2 dDiv (.rd 0) (.rd 2)) (.acons (.op2 dAdd (.rd 3) (.cst (.int 1))) .anil)))) 
  (.seq (.ife (.op2 dGt (.rd 3) (.cst (.int 0))) 
  (.mut 1 dApp (.tup (.acons (.var 2) (.acons (.var 3) .anil)))) .skip) 
  (.aug 2 dAddI (.ife (.op2 dEq (.rd 2) (.cst (.int 2))) (.cst (.int 1)) (.cst (.int 2)))))))) 
  (.ret (.op2 dAdd (.rd 1) (.ife (.op2 dGt (.rd 0) (.cst (.int 1))) (.lst (.acons (.tup (.acons (.var 0) (.acons (.cst (.int 1)) .anil))) .anil)) (.lst .anil)))))))
theorem d_prime_powers  : QSs (C_prime_powers ) N_prime_powers (defScope s_prime_powers) (defBody s_prime_powers) (z_prime_powers ) :=
  (qss_cons (qs_asgO 1 (qf_lst qv_nil)) (qss_cons (qs_asg 2 qe_int) (qss_cons (qs_whl (qt_cmp o_le (qe_op o_mul (qr_rd 2) (qr_rd 2)).r (qr_rd 0)) (qss_cons (qs_asg 3 qe_int) (qss_cons (qs_whl (qt_cmp o_eq (qe_op o_mod (qr_rd 0) (qr_rd 2)).r qe_int.r) (qss_one (qs_par2 0 3 (qm_sh (qe_op o_div (qr_rd 0) (qr_rd 2)) (qm_sh (qe_op o_add (qr_rd 3) qe_int.r) qm_nil))))) (qss_cons (qs_ife (qt_cmp o_gt (qr_rd 3) qe_int.r) (qss_one (qs_app 1 (qe_tup (qv_cons (qe_var 2) (qv_cons (qe_var 3) qv_nil))))) qss_nil) (qss_one (qs_aug 2 i_add (qe_ife (qt_cmp o_eq (qr_rd 2) qe_int.r) qe_int qe_int))))))) (qss_one (qs_ret (qe_op o_add (qr_rd 1) (qr_ife (qt_cmp o_gt (qr_rd 0) qe_int.r) (qf_lst (qv_cons (qe_tup (qv_cons (qe_var 0) (qv_cons qe_int qv_nil))) qv_nil)).r (qf_lst qv_nil).r)))))))
abbrev s_power_by : Stmt := topS 5
abbrev N_power_by : List Str := ["a", "n", "m", "told", "here"]
theorem sc_power_by : FnScope N_power_by ["a", "n", "m"] (defScope s_power_by) := ⟨rfl, rfl, rfl, by decide +kernel, rfl, by decide +kernel, by decide +kernel⟩
abbrev C_power_by  : Ct := ⟨[], [], false⟩
def z_power_by  : ZS := (.seq (.par [(3, false), (4, false)] (.acons (.op2 dMod (.cst (.int 1)) (.rd 2)) (.acons (.op2 dMod (.rd 0) (.rd 2)) .anil))) 
  (.seq (.whl (.op2 dGt (.rd 1) (.cst (.int 0))) 
  (.seq (.ife (.op2 dEq (.op2 dMod (.rd 1) (.cst (.int 2))) (.cst (.int 1))) 
  (.asg (.one 3) (.op2 dMod (.op2 dMul (.rd 3) (.rd 4)) (.rd 2))) .skip) 
  (.seq (.asg (.one 4) (.op2 dMod (.op2 dMul (.rd 4) (.rd 4)) (.rd 2))) 
  (.asg (.one 1) (.op2 dDiv (.rd 1) (.cst (.int 2))))))) 
  (.ret (.var 3))))
theorem d_power_by  : QSs (C_power_by ) N_power_by (defScope s_power_by) (defBody s_power_by) (z_power_by ) :=
  (qss_cons (qs_par2 3 4 (qm_sh (qe_op o_mod qe_int.r (qr_rd 2)) (qm_sh (qe_op o_mod (qr_rd 0) (qr_rd 2)) qm_nil))) (qss_cons (qs_whl (qt_cmp o_gt (qr_rd 1) qe_int.r) (qss_cons (qs_ife (qt_cmp o_eq (qe_op o_mod (qr_rd 1) qe_int.r).r qe_int.r) (qss_one (qs_asg 3 (qe_op o_mod (qe_op o_mul (qr_rd 3) (qr_rd 4)).r (qr_rd 2)))) qss_nil) (qss_cons (qs_asg 4 (qe_op o_mod (qe_op o_mul (qr_rd 4) (qr_rd 4)).r (qr_rd 2))) (qss_one (qs_asg 1 (qe_op o_div (qr_rd 1) qe_int.r)))))) (qss_one (qs_ret (qe_var 3)))))
abbrev s_greatest_order : Stmt := topS 6
abbrev N_greatest_order : List Str := ["n", "told", "p", "k", "here"]
theorem sc_greatest_order : FnScope N_greatest_order ["n"] (defScope s_greatest_order) := ⟨rfl, rfl, rfl, by decide +kernel, rfl, by decide +kernel, by decide +kernel⟩
abbrev C_greatest_order (fs_prime_powers : List D → Option D) (fs_power : List D → Option D) : Ct := ⟨[⟨"prime_powers", .pl fs_prime_powers⟩, ⟨"power", .pl fs_power⟩], [], true⟩
def z_greatest_order (fs_prime_powers : List D → Option D) (fs_power : List D → Option D) : ZS := (.seq (.asg (.one 1) (.cst (.int 1))) 
  (.seq (.forr (.cons (.one 2) (.cons (.one 3) .nil)) (.op1 dSeq (.call fs_prime_powers (.acons (.rd 0) .anil))) 
  (.seq (.asg (.one 4) (.op2 dMul (.op2 dSub (.rd 2) (.cst (.int 1))) (.call fs_power (.acons (.rd 2) (.acons (.op2 dSub (.rd 3) (.cst (.int 1))) .anil))))) 
  (.seq (.ife (.band (.op2 dEq (.rd 2) (.cst (.int 2))) (.op2 dGt (.rd 3) (.cst (.int 2)))) 
  (.asg (.one 4) (.op2 dDiv (.rd 4) (.cst (.int 2)))) .skip) 
  (.asg (.one 1) (.op2 dDiv (.op2 dMul (.rd 1) (.rd 4)) (.bi dGcd (.acons (.rd 1) (.acons (.rd 4) .anil)))))))) 
  (.ret (.var 1))))
theorem d_greatest_order {fs_prime_powers : List D → Option D} {fs_power : List D → Option D} : QSs (C_greatest_order fs_prime_powers fs_power) N_greatest_order (defScope s_greatest_order) (defBody s_greatest_order) (z_greatest_order fs_prime_powers fs_power) :=
  (qss_cons (qs_asg 1 qe_int) (qss_cons (qs_for (qi_seq ms_ok (qe_call (.head _) (qa_r (qr_rd 0) qa_nil)).s) (qg_tup (qgs_cons (qg_name 2) (qgs_cons (qg_name 3) qgs_nil))) (qss_cons (qs_asg 4 (qe_op o_mul (qe_op o_sub (qr_rd 2) qe_int.r).r (qe_call (.tail _ (.head _)) (qa_r (qr_rd 2) (qa_r (qe_op o_sub (qr_rd 3) qe_int.r).r qa_nil))).r)) (qss_cons (qs_ife (qw_and (qt_cmp o_eq (qr_rd 2) qe_int.r) (qw_and1 (qt_cmp o_gt (qr_rd 3) qe_int.r))).t (qss_one (qs_asg 4 (qe_op o_div (qr_rd 4) qe_int.r))) qss_nil) (qss_one (qs_asg 1 (qe_op o_div (qe_op o_mul (qr_rd 1) (qr_rd 4)).r (qe_gcd rfl (qa_r (qr_rd 1) (qa_r (qr_rd 4) qa_nil))).r)))))) (qss_one (qs_ret (qe_var 1)))))
abbrev s_order_of : Stmt := topS 7
abbrev N_order_of : List Str := ["a", "n", "told", "p", "_"]
theorem sc_order_of : FnScope N_order_of ["a", "n"] (defScope s_order_of) := ⟨rfl, rfl, rfl, by decide +kernel, rfl, by decide +kernel, by decide +kernel⟩
abbrev C_order_of (fs_greatest_order : List D → Option D) (fs_prime_powers : List D → Option D) (fs_power_by : List D → Option D) : Ct := ⟨[⟨"greatest_order", .pl fs_greatest_order⟩, ⟨"prime_powers", .pl fs_prime_powers⟩, ⟨"power_by", .pl fs_power_by⟩], [], false⟩
def z_order_of (fs_greatest_order : List D → Option D) (fs_prime_powers : List D → Option D) (fs_power_by : List D → Option D) : ZS := (.seq (.asg (.one 2) (.call fs_greatest_order (.acons (.rd 1) .anil))) 
  (.seq (.forr (.cons (.one 3) (.cons (.one 4) .nil)) (.op1 dSeq (.call fs_prime_powers (.acons (.rd 2) .anil))) 
  (.whl (.band (.op2 dEq (.op2 dMod (.rd 2) (.rd 3)) (.cst (.int 0))) (.op2 dEq (.call fs_power_by (.acons (.rd 0) (.acons (.op2 dDiv (.rd 2) (.rd 3)) (.acons (.rd 1) .anil)))) (.op2 dMod (.cst (.int 1)) (.rd 1)))) 
  (.asg (.one 2) (.op2 dDiv (.rd 2) (.rd 3))))) 
  (.ret (.var 2))))
theorem d_order_of {fs_greatest_order : List D → Option D} {fs_prime_powers : List D → Option D} {fs_power_by : List D → Option D} : QSs (C_order_of fs_greatest_order fs_prime_powers fs_power_by) N_order_of (defScope s_order_of) (defBody s_order_of) (z_order_of fs_greatest_order fs_prime_powers fs_power_by) :=
  (qss_cons (qs_asg 2 (qe_call (.head _) (qa_r (qr_rd 1) qa_nil))) (qss_cons (qs_for (qi_seq ms_ok (qe_call (.tail _ (.head _)) (qa_r (qr_rd 2) qa_nil)).s) (qg_tup (qgs_cons (qg_name 3) (qgs_cons (qg_name 4) qgs_nil))) (qss_one (qs_whl (qw_and (qt_cmp o_eq (qe_op o_mod (qr_rd 2) (qr_rd 3)).r qe_int.r) (qw_and1 (qt_cmp o_eq (qe_call (.tail _ (.tail _ (.head _))) (qa_r (qr_rd 0) (qa_r (qe_op o_div (qr_rd 2) (qr_rd 3)).r (qa_r (qr_rd 1) qa_nil)))).r (qe_op o_mod qe_int.r (qr_rd 1)).r))).t (qss_one (qs_asg 2 (qe_op o_div (qr_rd 2) (qr_rd 3))))))) (qss_one (qs_ret (qe_var 2)))))
abbrev s_expansion : Stmt := topS 9
abbrev N_expansion : List Str := ["p", "q", "base", "met", "figures", "at", "whole", "left"]
theorem sc_expansion : FnScope N_expansion ["p", "q", "base"] (defScope s_expansion) := ⟨rfl, rfl, rfl, by decide +kernel, rfl, by decide +kernel, by decide +kernel⟩
abbrev C_expansion  : Ct := ⟨[], ["len", "tuple"], false⟩
def z_expansion  : ZS := (.seq (.par [(6, false), (7, false)] (.acons (.op2 dDiv (.rd 0) (.rd 1)) (.acons (.op2 dMod (.rd 0) (.rd 1)) .anil))) 
  (.seq (.asgO 3 (.cst (.dict []))) 
  (.seq (.asgO 4 (.lst .anil)) 
  (.seq (.whl (.op2 dNotInD (.rd 7) (.rd 3)) 
  (.seq (.seti 3 dSetD (.bi dLen (.acons (.rd 4) .anil)) (.var 7)) 
  (.seq (.mut 4 dApp (.op2 dDiv (.op2 dMul (.rd 7) (.rd 2)) (.rd 1))) 
  (.asg (.one 7) (.op2 dMod (.op2 dMul (.rd 7) (.rd 2)) (.rd 1)))))) 
  (.seq (.asg (.one 5) (.op2 dGetD (.rd 3) (.rd 7))) 
  (.ret (.tup (.acons (.var 6) (.acons (.bi dTuple (.acons (.op3 dSlice (.rd 4) (.cst .none) (.op1 dIntO (.var 5))) .anil)) (.acons (.bi dTuple (.acons (.op3 dSlice (.rd 4) (.op1 dIntO (.var 5)) (.cst .none)) .anil)) .anil))))))))))
theorem d_expansion  : QSs (C_expansion ) N_expansion (defScope s_expansion) (defBody s_expansion) (z_expansion ) :=
  (qss_cons (qs_par2 6 7 (qm_sh (qe_op o_div (qr_rd 0) (qr_rd 1)) (qm_sh (qe_op o_mod (qr_rd 0) (qr_rd 1)) qm_nil))) (qss_cons (qs_asgO 3 qf_dnew) (qss_cons (qs_asgO 4 (qf_lst qv_nil)) (qss_cons (qs_whl (qt_dinN (qr_rd 7) (qr_rd 3)) (qss_cons (qs_setD 3 (qe_bi c_len (.head _) PySem.boot_len (qa_r (qr_rd 4) qa_nil)) (qe_var 7)) (qss_cons (qs_app 4 (qe_op o_div (qe_op o_mul (qr_rd 7) (qr_rd 2)).r (qr_rd 1))) (qss_one (qs_asg 7 (qe_op o_mod (qe_op o_mul (qr_rd 7) (qr_rd 2)).r (qr_rd 1))))))) (qss_cons (qs_asg 5 (qe_dget (qr_rd 3) (qr_rd 7))) (qss_one (qs_ret (qe_tup (qv_cons (qe_var 6) (qv_cons (qe_ty c_tuple (.tail _ (.head _)) PyProof.Rows.boot_tuple (qa_r (qe_slice (qr_rd 4) qo_none (qo_some (qe_var 5))).r qa_nil)) (qv_cons (qe_ty c_tuple (.tail _ (.head _)) PyProof.Rows.boot_tuple (qa_r (qe_slice (qr_rd 4) (qo_some (qe_var 5)) qo_none).r qa_nil)) qv_nil)))))))))))
abbrev s_number_of : Stmt := topS 10
abbrev N_number_of : List Str := ["figures", "base", "told", "figure"]
theorem sc_number_of : FnScope N_number_of ["figures", "base"] (defScope s_number_of) := ⟨rfl, rfl, rfl, by decide +kernel, rfl, by decide +kernel, by decide +kernel⟩
abbrev C_number_of  : Ct := ⟨[], [], false⟩
def z_number_of  : ZS := (.seq (.asg (.one 2) (.cst (.int 0))) 
  (.seq (.forr (.one 3) (.op1 dSeq (.sr 0)) 
  (.asg (.one 2) (.op2 dAdd (.op2 dMul (.rd 2) (.rd 1)) (.rd 3)))) 
  (.ret (.var 2))))
theorem d_number_of  : QSs (C_number_of ) N_number_of (defScope s_number_of) (defBody s_number_of) (z_number_of ) :=
  (qss_cons (qs_asg 2 qe_int) (qss_cons (qs_for (qi_seq ms_ok (qs_sr 0)) (qg_name 3) (qss_one (qs_asg 2 (qe_op o_add (qe_op o_mul (qr_rd 2) (qr_rd 1)).r (qr_rd 3))))) (qss_one (qs_ret (qe_var 2)))))
abbrev s_value_of : Stmt := topS 11
abbrev N_value_of : List Str := ["whole", "beginning", "round_", "base", "far", "nines", "p", "both"]
theorem sc_value_of : FnScope N_value_of ["whole", "beginning", "round_", "base"] (defScope s_value_of) := ⟨rfl, rfl, rfl, by decide +kernel, rfl, by decide +kernel, by decide +kernel⟩
abbrev C_value_of (fs_power : List D → Option D) (fs_number_of : List D → Option D) : Ct := ⟨[⟨"power", .pl fs_power⟩, ⟨"number_of", .pl fs_number_of⟩], ["len"], true⟩
def z_value_of (fs_power : List D → Option D) (fs_number_of : List D → Option D) : ZS := (.seq (.asg (.one 4) (.call fs_power (.acons (.rd 3) (.acons (.bi dLen (.acons (.rd 1) .anil)) .anil)))) 
  (.seq (.asg (.one 5) (.op2 dSub (.call fs_power (.acons (.rd 3) (.acons (.bi dLen (.acons (.rd 2) .anil)) .anil))) (.cst (.int 1)))) 
  (.seq (.asg (.one 6) (.op2 dAdd (.op2 dMul (.op2 dAdd (.op2 dMul (.rd 0) (.rd 4)) (.call fs_number_of (.acons (.rd 1) (.acons (.rd 3) .anil)))) (.rd 5)) (.call fs_number_of (.acons (.rd 2) (.acons (.rd 3) .anil))))) 
  (.seq (.asg (.one 7) (.bi dGcd (.acons (.rd 6) (.acons (.op2 dMul (.rd 4) (.rd 5)) .anil)))) 
  (.ret (.tup (.acons (.op2 dDiv (.rd 6) (.rd 7)) (.acons (.op2 dDiv (.op2 dMul (.rd 4) (.rd 5)) (.rd 7)) .anil))))))))
theorem d_value_of {fs_power : List D → Option D} {fs_number_of : List D → Option D} : QSs (C_value_of fs_power fs_number_of) N_value_of (defScope s_value_of) (defBody s_value_of) (z_value_of fs_power fs_number_of) :=
  (qss_cons (qs_asg 4 (qe_call (.head _) (qa_r (qr_rd 3) (qa_r (qe_bi c_len (.head _) PySem.boot_len (qa_r (qr_rd 1) qa_nil)).r qa_nil)))) (qss_cons (qs_asg 5 (qe_op o_sub (qe_call (.head _) (qa_r (qr_rd 3) (qa_r (qe_bi c_len (.head _) PySem.boot_len (qa_r (qr_rd 2) qa_nil)).r qa_nil))).r qe_int.r)) (qss_cons (qs_asg 6 (qe_op o_add (qe_op o_mul (qe_op o_add (qe_op o_mul (qr_rd 0) (qr_rd 4)).r (qe_call (.tail _ (.head _)) (qa_r (qr_rd 1) (qa_r (qr_rd 3) qa_nil))).r).r (qr_rd 5)).r (qe_call (.tail _ (.head _)) (qa_r (qr_rd 2) (qa_r (qr_rd 3) qa_nil))).r)) (qss_cons (qs_asg 7 (qe_gcd rfl (qa_r (qr_rd 6) (qa_r (qe_op o_mul (qr_rd 4) (qr_rd 5)).r qa_nil)))) (qss_one (qs_ret (qe_tup (qv_cons (qe_op o_div (qr_rd 6) (qr_rd 7)) (qv_cons (qe_op o_div (qe_op o_mul (qr_rd 4) (qr_rd 5)).r (qr_rd 7)) qv_nil)))))))))
abbrev s_lengths_of : Stmt := topS 12
abbrev N_lengths_of : List Str := ["q", "base", "left", "k"]
theorem sc_lengths_of : FnScope N_lengths_of ["q", "base"] (defScope s_lengths_of) := ⟨rfl, rfl, rfl, by decide +kernel, rfl, by decide +kernel, by decide +kernel⟩
abbrev C_lengths_of (fs_power : List D → Option D) (fs_order_of : List D → Option D) : Ct := ⟨[⟨"power", .pl fs_power⟩, ⟨"order_of", .pl fs_order_of⟩], [], true⟩
def z_lengths_of (fs_power : List D → Option D) (fs_order_of : List D → Option D) : ZS := (.seq (.asg (.one 2) (.var 0)) 
  (.seq (.whl (.op2 dGt (.bi dGcd (.acons (.rd 2) (.acons (.rd 1) .anil))) (.cst (.int 1))) 
  (.asg (.one 2) (.op2 dDiv (.rd 2) (.bi dGcd (.acons (.rd 2) (.acons (.rd 1) .anil)))))) 
  (.seq (.asg (.one 3) (.cst (.int 0))) 
  (.seq (.whl (.op2 dNe (.op2 dMod (.op2 dMul (.rd 2) (.call fs_power (.acons (.rd 1) (.acons (.rd 3) .anil)))) (.rd 0)) (.cst (.int 0))) 
  (.aug 3 dAddI (.cst (.int 1)))) 
  (.ret (.tup (.acons (.var 3) (.acons (.call fs_order_of (.acons (.rd 1) (.acons (.rd 2) .anil))) .anil))))))))
theorem d_lengths_of {fs_power : List D → Option D} {fs_order_of : List D → Option D} : QSs (C_lengths_of fs_power fs_order_of) N_lengths_of (defScope s_lengths_of) (defBody s_lengths_of) (z_lengths_of fs_power fs_order_of) :=
  (qss_cons (qs_asg 2 (qe_var 0)) (qss_cons (qs_whl (qt_cmp o_gt (qe_gcd rfl (qa_r (qr_rd 2) (qa_r (qr_rd 1) qa_nil))).r qe_int.r) (qss_one (qs_asg 2 (qe_op o_div (qr_rd 2) (qe_gcd rfl (qa_r (qr_rd 2) (qa_r (qr_rd 1) qa_nil))).r)))) (qss_cons (qs_asg 3 qe_int) (qss_cons (qs_whl (qt_cmp o_ne (qe_op o_mod (qe_op o_mul (qr_rd 2) (qe_call (.head _) (qa_r (qr_rd 1) (qa_r (qr_rd 3) qa_nil))).r).r (qr_rd 0)).r qe_int.r) (qss_one (qs_aug 3 i_add qe_int))) (qss_one (qs_ret (qe_tup (qv_cons (qe_var 3) (qv_cons (qe_call (.tail _ (.head _)) (qa_r (qr_rd 1) (qa_r (qr_rd 2) qa_nil))) qv_nil)))))))))
abbrev s__law_state : Stmt := topS 14
abbrev N__law_state : List Str := ["script", "seed", "cell"]
theorem sc__law_state : FnScope N__law_state ["script"] (defScope s__law_state) := ⟨rfl, rfl, rfl, by decide +kernel, rfl, by decide +kernel, by decide +kernel⟩
abbrev C__law_state  : Ct := ⟨[], ["int", "abs"], false⟩
def z__law_state  : ZS := (.seq (.asg (.one 1) (.cst (.int 7))) 
  (.seq (.forr (.one 2) (.op1 dSeq (.sr 0)) 
  (.asg (.one 1) (.op2 dMod (.bi dInt (.acons (.op2 dAdd (.op2 dMul (.rd 1) (.cst (.int 31))) (.rd 2)) .anil)) (.cst (.int 1000003))))) 
  (.ret (.lst (.acons (.comp [2] (.one 2) (.op1 dSeq (.rd 0)) (.cst (.bool true)) (.bi dAbs (.acons (.rd 2) .anil))) (.acons (.op2 dAdd (.rd 1) (.cst (.int 1))) .anil))))))
theorem d__law_state  : QSs (C__law_state ) N__law_state (defScope s__law_state) (defBody s__law_state) (z__law_state ) :=
  (qss_cons (qs_asg 1 qe_int) (qss_cons (qs_for (qi_seq ms_ok (qs_sr 0)) (qg_name 2) (qss_one (qs_asg 1 (qe_op o_mod (qe_ty c_int (.head _) PyProof.Rows.boot_int (qa_r (qe_op o_add (qe_op o_mul (qr_rd 1) qe_int.r).r (qr_rd 2)).r qa_nil)).r qe_int.r)))) (qss_one (qs_ret (qf_lst (qv_cons (qf_comp [("cell", 2)] (qi_seq mr_ok (qr_rd 0).p) (by decide +kernel) (qg_name 2) qts_nil (qe_bi c_abs (.tail _ (.head _)) PyProof.Rows.boot_abs (qa_r (qr_rd 2) qa_nil))).e (qv_cons (qe_op o_add (qr_rd 1) qe_int.r) qv_nil))).e))))
def z1__law_state : ZS := (.seq (.asg (.one 1) (.cst (.int 7))) (.forr (.one 2) (.op1 dSeq (.sr 0)) 
  (.asg (.one 1) (.op2 dMod (.bi dInt (.acons (.op2 dAdd (.op2 dMul (.rd 1) (.cst (.int 31))) (.rd 2)) .anil)) (.cst (.int 1000003))))))
def zc__law_state : ZE := (.comp [2] (.one 2) (.op1 dSeq (.rd 0)) (.cst (.bool true)) (.bi dAbs (.acons (.rd 2) .anil)))
def ze__law_state : ZE := (.op2 dAdd (.rd 1) (.cst (.int 1)))
theorem d1__law_state : QS C__law_state N__law_state (defScope s__law_state) (stB s__law_state 0) (.asg (.one 1) (.cst (.int 7))) := (qs_asg 1 qe_int)
theorem d2__law_state : QS C__law_state N__law_state (defScope s__law_state) (stB s__law_state 1) (.forr (.one 2) (.op1 dSeq (.sr 0)) 
  (.asg (.one 1) (.op2 dMod (.bi dInt (.acons (.op2 dAdd (.op2 dMul (.rd 1) (.cst (.int 31))) (.rd 2)) .anil)) (.cst (.int 1000003))))) := (qs_for (qi_seq ms_ok (qs_sr 0)) (qg_name 2) (qss_one (qs_asg 1 (qe_op o_mod (qe_ty c_int (.head _) PyProof.Rows.boot_int (qa_r (qe_op o_add (qe_op o_mul (qr_rd 1) qe_int.r).r (qr_rd 2)).r qa_nil)).r qe_int.r))))
theorem dc__law_state : QF C__law_state N__law_state (defScope s__law_state) (exR (stB s__law_state 2) 0) (.comp [2] (.one 2) (.op1 dSeq (.rd 0)) (.cst (.bool true)) (.bi dAbs (.acons (.rd 2) .anil))) := (qf_comp [("cell", 2)] (qi_seq mr_ok (qr_rd 0).p) (by decide +kernel) (qg_name 2) qts_nil (qe_bi c_abs (.tail _ (.head _)) PyProof.Rows.boot_abs (qa_r (qr_rd 2) qa_nil)))
theorem de__law_state : QE C__law_state N__law_state (defScope s__law_state) (exR (stB s__law_state 2) 1) (.op2 dAdd (.rd 1) (.cst (.int 1))) := (qe_op o_add (qr_rd 1) qe_int.r)
-- NOT: _law_draw: fresh state[0]
abbrev s__law_draw : Stmt := topS 15
abbrev N__law_draw : List Str := ["state", "many", "cells", "mixed", "value"]
theorem sc__law_draw : FnScope N__law_draw ["state", "many"] (defScope s__law_draw) := ⟨rfl, rfl, rfl, by decide +kernel, rfl, by decide +kernel, by decide +kernel⟩
abbrev s__law_frac : Stmt := topS 16
abbrev N__law_frac : List Str := ["p", "q", "a", "b"]
theorem sc__law_frac : FnScope N__law_frac ["p", "q"] (defScope s__law_frac) := ⟨rfl, rfl, rfl, by decide +kernel, rfl, by decide +kernel, by decide +kernel⟩
abbrev C__law_frac  : Ct := ⟨[], ["abs", "int"], false⟩
def z__law_frac  : ZS := (.seq (.par [(2, false), (3, false)] (.acons (.bi dAbs (.acons (.rd 0) .anil)) (.acons (.bi dAbs (.acons (.rd 1) .anil)) .anil))) 
  (.seq (.whl (.op2 dGt (.rd 3) (.cst (.int 0))) 
  (.par [(2, false), (3, false)] (.acons (.var 3) (.acons (.op2 dMod (.bi dInt (.acons (.rd 2) .anil)) (.rd 3)) .anil)))) 
  (.ret (.ife (.op2 dGt (.rd 1) (.cst (.int 0))) (.tup (.acons (.op2 dDiv (.rd 0) (.rd 2)) (.acons (.op2 dDiv (.rd 1) (.rd 2)) .anil))) (.tup (.acons (.op2 dDiv (.op1 dNeg (.rd 0)) (.rd 2)) (.acons (.op2 dDiv (.op1 dNeg (.rd 1)) (.rd 2)) .anil)))))))
theorem d__law_frac  : QSs (C__law_frac ) N__law_frac (defScope s__law_frac) (defBody s__law_frac) (z__law_frac ) :=
  (qss_cons (qs_par2 2 3 (qm_sh (qe_bi c_abs (.head _) PyProof.Rows.boot_abs (qa_r (qr_rd 0) qa_nil)) (qm_sh (qe_bi c_abs (.head _) PyProof.Rows.boot_abs (qa_r (qr_rd 1) qa_nil)) qm_nil))) (qss_cons (qs_whl (qt_cmp o_gt (qr_rd 3) qe_int.r) (qss_one (qs_par2 2 3 (qm_sh (qe_var 3) (qm_sh (qe_op o_mod (qe_ty c_int (.tail _ (.head _)) PyProof.Rows.boot_int (qa_r (qr_rd 2) qa_nil)).r (qr_rd 3)) qm_nil))))) (qss_one (qs_ret (qe_ife (qt_cmp o_gt (qr_rd 1) qe_int.r) (qe_tup (qv_cons (qe_op o_div (qr_rd 0) (qr_rd 2)) (qv_cons (qe_op o_div (qr_rd 1) (qr_rd 2)) qv_nil))) (qe_tup (qv_cons (qe_op o_div (qe_un o_neg (qr_rd 0)).r (qr_rd 2)) (qv_cons (qe_op o_div (qe_un o_neg (qr_rd 1)).r (qr_rd 2)) qv_nil))))))))
abbrev s__law_add : Stmt := topS 17
abbrev N__law_add : List Str := ["one", "other"]
theorem sc__law_add : FnScope N__law_add ["one", "other"] (defScope s__law_add) := ⟨rfl, rfl, rfl, by decide +kernel, rfl, by decide +kernel, by decide +kernel⟩
abbrev C__law_add (fs__law_frac : List D → Option D) : Ct := ⟨[⟨"_law_frac", .pl fs__law_frac⟩], [], false⟩
def z__law_add (fs__law_frac : List D → Option D) : ZS := (.ret (.call fs__law_frac (.acons (.op2 dAdd (.op2 dMul (.op2 dIx (.rd 0) (.cst (.int 0))) (.op2 dIx (.rd 1) (.cst (.int 1)))) (.op2 dMul (.op2 dIx (.rd 1) (.cst (.int 0))) (.op2 dIx (.rd 0) (.cst (.int 1))))) (.acons (.op2 dMul (.op2 dIx (.rd 0) (.cst (.int 1))) (.op2 dIx (.rd 1) (.cst (.int 1)))) .anil))))
theorem d__law_add {fs__law_frac : List D → Option D} : QSs (C__law_add fs__law_frac) N__law_add (defScope s__law_add) (defBody s__law_add) (z__law_add fs__law_frac) :=
  (qss_one (qs_ret (qe_call (.head _) (qa_r (qe_op o_add (qe_op o_mul (qe_ix (qr_rd 0) qe_int.r).r (qe_ix (qr_rd 1) qe_int.r).r).r (qe_op o_mul (qe_ix (qr_rd 1) qe_int.r).r (qe_ix (qr_rd 0) qe_int.r).r).r).r (qa_r (qe_op o_mul (qe_ix (qr_rd 0) qe_int.r).r (qe_ix (qr_rd 1) qe_int.r).r).r qa_nil)))))
abbrev s__law_gcd : Stmt := topS 18
abbrev N__law_gcd : List Str := ["a", "b"]
theorem sc__law_gcd : FnScope N__law_gcd ["a", "b"] (defScope s__law_gcd) := ⟨rfl, rfl, rfl, by decide +kernel, rfl, by decide +kernel, by decide +kernel⟩
abbrev C__law_gcd  : Ct := ⟨[], ["abs", "int"], false⟩
def z__law_gcd  : ZS := (.seq (.par [(0, false), (1, false)] (.acons (.bi dAbs (.acons (.rd 0) .anil)) (.acons (.bi dAbs (.acons (.rd 1) .anil)) .anil))) 
  (.seq (.whl (.op2 dGt (.rd 1) (.cst (.int 0))) 
  (.par [(0, false), (1, false)] (.acons (.var 1) (.acons (.op2 dMod (.bi dInt (.acons (.rd 0) .anil)) (.rd 1)) .anil)))) 
  (.ret (.var 0))))
theorem d__law_gcd  : QSs (C__law_gcd ) N__law_gcd (defScope s__law_gcd) (defBody s__law_gcd) (z__law_gcd ) :=
  (qss_cons (qs_par2 0 1 (qm_sh (qe_bi c_abs (.head _) PyProof.Rows.boot_abs (qa_r (qr_rd 0) qa_nil)) (qm_sh (qe_bi c_abs (.head _) PyProof.Rows.boot_abs (qa_r (qr_rd 1) qa_nil)) qm_nil))) (qss_cons (qs_whl (qt_cmp o_gt (qr_rd 1) qe_int.r) (qss_one (qs_par2 0 1 (qm_sh (qe_var 1) (qm_sh (qe_op o_mod (qe_ty c_int (.tail _ (.head _)) PyProof.Rows.boot_int (qa_r (qr_rd 0) qa_nil)).r (qr_rd 1)) qm_nil))))) (qss_one (qs_ret (qe_var 0)))))
abbrev s_law : Stmt := topS 19
abbrev N_law : List Str := ["script", "state", "turn", "p", "far", "great", "long", "after", "rest", "ends", "power_v", "k", "base", "q", "whole", "ahead", "figures", "low", "high", "one", "two", "other", "x"]
theorem sc_law : FnScope N_law ["script"] (defScope s_law) := ⟨rfl, rfl, rfl, by decide +kernel, rfl, by decide +kernel, by decide +kernel⟩
abbrev C_law (fs__law_state : List D → Option D) (fs__law_draw : D → List D → Option (D × D)) (fs_expansion : List D → Option D) (fs__law_frac : List D → Option D) (fs_lengths_of : List D → Option D) (fs__law_gcd : List D → Option D) (fs_value_of : List D → Option D) (fs__law_add : List D → Option D) (fs_order_of : List D → Option D) : Ct := ⟨[⟨"_law_state", .mk fs__law_state⟩, ⟨"_law_draw", .sf fs__law_draw⟩, ⟨"expansion", .pl fs_expansion⟩, ⟨"_law_frac", .pl fs__law_frac⟩, ⟨"lengths_of", .pl fs_lengths_of⟩, ⟨"_law_gcd", .pl fs__law_gcd⟩, ⟨"value_of", .pl fs_value_of⟩, ⟨"_law_add", .pl fs__law_add⟩, ⟨"order_of", .pl fs_order_of⟩], ["range", "list", "len", "int", "tuple"], false⟩
def z_law (fs__law_state : List D → Option D) (fs__law_draw : D → List D → Option (D × D)) (fs_expansion : List D → Option D) (fs__law_frac : List D → Option D) (fs_lengths_of : List D → Option D) (fs__law_gcd : List D → Option D) (fs_value_of : List D → Option D) (fs__law_add : List D → Option D) (fs_order_of : List D → Option D) : ZS := (.seq (.asgM 1 fs__law_state (.acons (.rd 0) .anil)) 
  (.seq (.forr (.one 2) (.bi dRng1 (.acons (.cst (.int 5)) .anil)) 
  (.seq (.par [(12, false), (13, false)] (.acons (.op2 dAdd (.cst (.int 2)) (.calls 1 fs__law_draw (.acons (.cst (.int 9)) .anil))) (.acons (.op2 dAdd (.cst (.int 2)) (.calls 1 fs__law_draw (.acons (.cst (.int 150)) .anil))) .anil))) 
  (.seq (.asg (.one 3) (.calls 1 fs__law_draw (.acons (.rd 13) .anil))) 
  (.seq (.asg (.cons (.one 14) (.cons (.one 15) (.cons (.one 16) .nil))) (.call fs_expansion (.acons (.rd 3) (.acons (.rd 13) (.acons (.rd 12) .anil))))) 
  (.seq (.asg (.cons (.one 17) (.cons (.one 18) .nil)) (.call fs__law_frac (.acons (.rd 3) (.acons (.rd 13) .anil)))) 
  (.seq (.par [(19, false), (20, false)] (.acons (.call fs_lengths_of (.acons (.rd 18) (.acons (.rd 12) .anil))) (.acons (.call fs_lengths_of (.acons (.rd 18) (.acons (.op2 dMul (.rd 12) (.rd 12)) .anil))) .anil))) 
  (.seq (.ife (.op2 dNe (.rd 20) (.tup (.acons (.op2 dDiv (.op2 dAdd (.op2 dIx (.rd 19) (.cst (.int 0))) (.cst (.int 1))) (.cst (.int 2))) (.acons (.op2 dDiv (.op2 dIx (.rd 19) (.cst (.int 1))) (.call fs__law_gcd (.acons (.op2 dIx (.rd 19) (.cst (.int 1))) (.acons (.cst (.int 2)) .anil)))) .anil)))) 
  (.ret (.cst (.bool false))) .skip) 
  (.seq (.asg (.one 4) (.op2 dCat (.bi dList (.acons (.rd 15) .anil)) (.op2 dRep (.bi dList (.acons (.rd 16) .anil)) (.op2 dAdd (.op2 dMul (.cst (.int 2)) (.bi dLen (.acons (.rd 16) .anil))) (.cst (.int 20)))))) 
  (.seq (.asg (.one 5) (.call fs_expansion (.acons (.rd 3) (.acons (.rd 13) (.acons (.op2 dMul (.rd 12) (.rd 12)) .anil))))) 
  (.seq (.asg (.one 6) (.op2 dCat (.bi dList (.acons (.op2 dIx (.rd 5) (.cst (.int 1))) .anil)) (.op2 dRep (.bi dList (.acons (.op2 dIx (.rd 5) (.cst (.int 2))) .anil)) (.op2 dAdd (.op2 dMul (.cst (.int 2)) (.bi dLen (.acons (.rd 16) .anil))) (.cst (.int 20)))))) 
  (.seq (.ife (.op2 dNe (.comp [11] (.one 11) (.bi dRng1 (.acons (.cst (.int 8)) .anil)) (.op2 dNe (.op2 dAdd (.op2 dMul (.op2 dIx (.rd 4) (.op2 dMul (.cst (.int 2)) (.rd 11))) (.rd 12)) (.op2 dIx (.rd 4) (.op2 dAdd (.op2 dMul (.cst (.int 2)) (.rd 11)) (.cst (.int 1))))) (.op2 dIx (.rd 6) (.rd 11))) (.var 11)) (.lst .anil)) 
  (.ret (.cst (.bool false))) .skip) 
  (.seq (.asg (.one 7) (.call fs_expansion (.acons (.op2 dMul (.rd 3) (.rd 12)) (.acons (.rd 13) (.acons (.rd 12) .anil))))) 
  (.seq (.asg (.one 8) (.op2 dCat (.bi dList (.acons (.op2 dIx (.rd 7) (.cst (.int 1))) .anil)) (.op2 dRep (.bi dList (.acons (.op2 dIx (.rd 7) (.cst (.int 2))) .anil)) (.cst (.int 40))))) 
  (.seq (.ife (.bor (.op2 dNe (.op2 dIx (.rd 7) (.cst (.int 0))) (.op2 dIx (.rd 4) (.cst (.int 0)))) (.op2 dNe (.op3 dSlice (.rd 8) (.cst .none) (.op1 dIntO (.cst (.int 10)))) (.op3 dSlice (.rd 4) (.op1 dIntO (.cst (.int 1))) (.op1 dIntO (.cst (.int 11)))))) 
  (.ret (.cst (.bool false))) .skip) 
  (.seq (.asg (.one 9) (.op2 dEq (.rd 16) (.tup (.acons (.cst (.int 0)) .anil)))) 
  (.seq (.asg (.one 10) (.cst (.int 1))) 
  (.seq (.forr (.one 11) (.bi dRng1 (.acons (.bi dLen (.acons (.rd 15) .anil)) .anil)) 
  (.asg (.one 10) (.op2 dMul (.rd 10) (.rd 12)))) 
  (.seq (.ife (.bor (.op2 dNe (.rd 9) (.op2 dEq (.op2 dMod (.bi dInt (.acons (.rd 10) .anil)) (.rd 18)) (.cst (.int 0)))) (.op2 dNe (.call fs_value_of (.acons (.cst (.int 0)) (.acons (.rd 15) (.acons (.tup (.acons (.op2 dSub (.rd 12) (.cst (.int 1))) .anil)) (.acons (.rd 12) .anil))))) (.call fs__law_add (.acons (.call fs_value_of (.acons (.cst (.int 0)) (.acons (.rd 15) (.acons (.tup (.acons (.cst (.int 0)) .anil)) (.acons (.rd 12) .anil))))) (.acons (.tup (.acons (.cst (.int 1)) (.acons (.var 10) .anil))) .anil))))) 
  (.ret (.cst (.bool false))) .skip) 
  (.seq (.ife (.band (.op2 dEq (.call fs__law_gcd (.acons (.rd 18) (.acons (.rd 12) .anil))) (.cst (.int 1))) (.bor (.op2 dNe (.rd 15) (.tup .anil)) (.op2 dNe (.bi dLen (.acons (.rd 16) .anil)) (.call fs_order_of (.acons (.rd 12) (.acons (.rd 18) .anil)))))) 
  (.ret (.cst (.bool false))) .skip) 
  (.ife (.band (.op2 dEq (.rd 15) (.tup .anil)) (.op1 dNot (.op1 dTru (.rd 9)))) 
  (.seq (.asg (.one 21) (.call fs_expansion (.acons (.op2 dSub (.rd 13) (.rd 3)) (.acons (.rd 13) (.acons (.rd 12) .anil))))) 
  (.ife (.op2 dNe (.rd 21) (.tup (.acons (.cst (.int 0)) (.acons (.tup .anil) (.acons (.bi dTuple (.acons (.comp [22] (.one 22) (.op1 dSeq (.rd 16)) (.cst (.bool true)) (.op2 dSub (.op2 dSub (.rd 12) (.cst (.int 1))) (.rd 22))) .anil)) .anil))))) 
  (.ret (.cst (.bool false))) .skip)) .skip)))))))))))))))))))) 
  (.ret (.cst (.bool true)))))
theorem d_law {fs__law_state : List D → Option D} {fs__law_draw : D → List D → Option (D × D)} {fs_expansion : List D → Option D} {fs__law_frac : List D → Option D} {fs_lengths_of : List D → Option D} {fs__law_gcd : List D → Option D} {fs_value_of : List D → Option D} {fs__law_add : List D → Option D} {fs_order_of : List D → Option D} : QSs (C_law fs__law_state fs__law_draw fs_expansion fs__law_frac fs_lengths_of fs__law_gcd fs_value_of fs__law_add fs_order_of) N_law (defScope s_law) (defBody s_law) (z_law fs__law_state fs__law_draw fs_expansion fs__law_frac fs_lengths_of fs__law_gcd fs_value_of fs__law_add fs_order_of) :=
  (qss_cons (qs_asgM 1 (.head _) (qa_r (qr_rd 0) qa_nil)) (qss_cons (qs_for (qi_range1 (.head _) (qa_r qe_int.r qa_nil)) (qg_name 2) (qss_cons (qs_parT [(12, false), (13, false)] (qm_sh (qe_op o_add qe_int.r (qe_calls 1 (.tail _ (.head _)) (qa_r qe_int.r qa_nil)).r) (qm_sh (qe_op o_add qe_int.r (qe_calls 1 (.tail _ (.head _)) (qa_r qe_int.r qa_nil)).r) qm_nil)) (qgn_cons 12 (qgn_cons 13 qgn_nil))) (qss_cons (qs_asg 3 (qe_calls 1 (.tail _ (.head _)) (qa_r (qr_rd 13) qa_nil))) (qss_cons (qs_asgT (qe_call (.tail _ (.tail _ (.head _))) (qa_r (qr_rd 3) (qa_r (qr_rd 13) (qa_r (qr_rd 12) qa_nil)))) (qg_tup (qgs_cons (qg_name 14) (qgs_cons (qg_name 15) (qgs_cons (qg_name 16) qgs_nil))))) (qss_cons (qs_asgT (qe_call (.tail _ (.tail _ (.tail _ (.head _)))) (qa_r (qr_rd 3) (qa_r (qr_rd 13) qa_nil))) (qg_tup (qgs_cons (qg_name 17) (qgs_cons (qg_name 18) qgs_nil)))) (qss_cons (qs_par2 19 20 (qm_sh (qe_call (.tail _ (.tail _ (.tail _ (.tail _ (.head _))))) (qa_r (qr_rd 18) (qa_r (qr_rd 12) qa_nil))) (qm_sh (qe_call (.tail _ (.tail _ (.tail _ (.tail _ (.head _))))) (qa_r (qr_rd 18) (qa_r (qe_op o_mul (qr_rd 12) (qr_rd 12)).r qa_nil))) qm_nil))) (qss_cons (qs_ife (qt_cmp o_ne (qr_rd 20) (qe_tup (qv_cons (qe_op o_div (qe_op o_add (qe_ix (qr_rd 19) qe_int.r).r qe_int.r).r qe_int.r) (qv_cons (qe_op o_div (qe_ix (qr_rd 19) qe_int.r).r (qe_call (.tail _ (.tail _ (.tail _ (.tail _ (.tail _ (.head _)))))) (qa_r (qe_ix (qr_rd 19) qe_int.r).r (qa_r qe_int.r qa_nil))).r) qv_nil))).r) (qss_one (qs_ret qe_bl)) qss_nil) (qss_cons (qs_asg 4 (qf_op o_catF (qf_ty c_list (.tail _ (.head _)) PyProof.Rows.boot_list (qa_r (qr_rd 15) qa_nil)).r (qf_rep (qf_ty c_list (.tail _ (.head _)) PyProof.Rows.boot_list (qa_r (qr_rd 16) qa_nil)) (qe_op o_add (qe_op o_mul qe_int.r (qe_bi c_len (.tail _ (.tail _ (.head _))) PySem.boot_len (qa_r (qr_rd 16) qa_nil)).r).r qe_int.r).r).r).e) (qss_cons (qs_asg 5 (qe_call (.tail _ (.tail _ (.head _))) (qa_r (qr_rd 3) (qa_r (qr_rd 13) (qa_r (qe_op o_mul (qr_rd 12) (qr_rd 12)).r qa_nil))))) (qss_cons (qs_asg 6 (qf_op o_catF (qf_ty c_list (.tail _ (.head _)) PyProof.Rows.boot_list (qa_r (qe_ix (qr_rd 5) qe_int.r).r qa_nil)).r (qf_rep (qf_ty c_list (.tail _ (.head _)) PyProof.Rows.boot_list (qa_r (qe_ix (qr_rd 5) qe_int.r).r qa_nil)) (qe_op o_add (qe_op o_mul qe_int.r (qe_bi c_len (.tail _ (.tail _ (.head _))) PySem.boot_len (qa_r (qr_rd 16) qa_nil)).r).r qe_int.r).r).r).e) (qss_cons (qs_ife (qt_cmp o_ne (qf_comp [("k", 11)] (qi_range1 (.head _) (qa_r qe_int.r qa_nil)) (by decide +kernel) (qg_name 11) (qts_one (qt_cmp o_ne (qe_op o_add (qe_op o_mul (qe_ix (qr_rd 4) (qe_op o_mul qe_int.r (qr_rd 11)).r).r (qr_rd 12)).r (qe_ix (qr_rd 4) (qe_op o_add (qe_op o_mul qe_int.r (qr_rd 11)).r qe_int.r).r).r).r (qe_ix (qr_rd 6) (qr_rd 11)).r)) (qe_var 11)).r (qf_lst qv_nil).r) (qss_one (qs_ret qe_bl)) qss_nil) (qss_cons (qs_asg 7 (qe_call (.tail _ (.tail _ (.head _))) (qa_r (qe_op o_mul (qr_rd 3) (qr_rd 12)).r (qa_r (qr_rd 13) (qa_r (qr_rd 12) qa_nil))))) (qss_cons (qs_asg 8 (qf_op o_catF (qf_ty c_list (.tail _ (.head _)) PyProof.Rows.boot_list (qa_r (qe_ix (qr_rd 7) qe_int.r).r qa_nil)).r (qf_rep (qf_ty c_list (.tail _ (.head _)) PyProof.Rows.boot_list (qa_r (qe_ix (qr_rd 7) qe_int.r).r qa_nil)) qe_int.r).r).e) (qss_cons (qs_ife (qw_or (qt_cmp o_ne (qe_ix (qr_rd 7) qe_int.r).r (qe_ix (qr_rd 4) qe_int.r).r) (qw_or1 (qt_cmp o_ne (qe_slice (qr_rd 8) qo_none (qo_some qe_int)).r (qe_slice (qr_rd 4) (qo_some qe_int) (qo_some qe_int)).r))).t (qss_one (qs_ret qe_bl)) qss_nil) (qss_cons (qs_asg 9 (qe_cmp o_eq (qr_rd 16) (qe_tup (qv_cons qe_int qv_nil)).r)) (qss_cons (qs_asg 10 qe_int) (qss_cons (qs_for (qi_range1 (.head _) (qa_r (qe_bi c_len (.tail _ (.tail _ (.head _))) PySem.boot_len (qa_r (qr_rd 15) qa_nil)).r qa_nil)) (qg_name 11) (qss_one (qs_asg 10 (qe_op o_mul (qr_rd 10) (qr_rd 12))))) (qss_cons (qs_ife (qw_or (qt_cmp o_ne (qr_rd 9) (qe_cmp o_eq (qe_op o_mod (qe_ty c_int (.tail _ (.tail _ (.tail _ (.head _)))) PyProof.Rows.boot_int (qa_r (qr_rd 10) qa_nil)).r (qr_rd 18)).r qe_int.r).r) (qw_or1 (qt_cmp o_ne (qe_call (.tail _ (.tail _ (.tail _ (.tail _ (.tail _ (.tail _ (.head _))))))) (qa_r qe_int.r (qa_r (qr_rd 15) (qa_r (qe_tup (qv_cons (qe_op o_sub (qr_rd 12) qe_int.r) qv_nil)).r (qa_r (qr_rd 12) qa_nil))))).r (qe_call (.tail _ (.tail _ (.tail _ (.tail _ (.tail _ (.tail _ (.tail _ (.head _)))))))) (qa_r (qe_call (.tail _ (.tail _ (.tail _ (.tail _ (.tail _ (.tail _ (.head _))))))) (qa_r qe_int.r (qa_r (qr_rd 15) (qa_r (qe_tup (qv_cons qe_int qv_nil)).r (qa_r (qr_rd 12) qa_nil))))).r (qa_r (qe_tup (qv_cons qe_int (qv_cons (qe_var 10) qv_nil))).r qa_nil))).r))).t (qss_one (qs_ret qe_bl)) qss_nil) (qss_cons (qs_ife (qw_and (qt_cmp o_eq (qe_call (.tail _ (.tail _ (.tail _ (.tail _ (.tail _ (.head _)))))) (qa_r (qr_rd 18) (qa_r (qr_rd 12) qa_nil))).r qe_int.r) (qw_and1 (qw_or (qt_cmp o_ne (qr_rd 15) (qe_tup qv_nil).r) (qw_or1 (qt_cmp o_ne (qe_bi c_len (.tail _ (.tail _ (.head _))) PySem.boot_len (qa_r (qr_rd 16) qa_nil)).r (qe_call (.tail _ (.tail _ (.tail _ (.tail _ (.tail _ (.tail _ (.tail _ (.tail _ (.head _))))))))) (qa_r (qr_rd 12) (qa_r (qr_rd 18) qa_nil))).r))).t)).t (qss_one (qs_ret qe_bl)) qss_nil) (qss_one (qs_ife (qw_and (qt_cmp o_eq (qr_rd 15) (qe_tup qv_nil).r) (qw_and1 (qt_not (qt_tru (qr_rd 9))))).t (qss_cons (qs_asg 21 (qe_call (.tail _ (.tail _ (.head _))) (qa_r (qe_op o_sub (qr_rd 13) (qr_rd 3)).r (qa_r (qr_rd 13) (qa_r (qr_rd 12) qa_nil))))) (qss_one (qs_ife (qt_cmp o_ne (qr_rd 21) (qe_tup (qv_cons qe_int (qv_cons (qe_tup qv_nil) (qv_cons (qe_ty c_tuple (.tail _ (.tail _ (.tail _ (.tail _ (.head _))))) PyProof.Rows.boot_tuple (qa_r (qf_comp [("x", 22)] (qi_seq mr_ok (qr_rd 16).p) (by decide +kernel) (qg_name 22) qts_nil (qe_op o_sub (qe_op o_sub (qr_rd 12) qe_int.r).r (qr_rd 22))).r qa_nil)) qv_nil)))).r) (qss_one (qs_ret qe_bl)) qss_nil))) qss_nil))))))))))))))))))))) (qss_one (qs_ret qe_bl))))
end K61
namespace K61
open PySem PySem.Spec PyProof.Rows L2 Z
noncomputable abbrev fs_power : List D → Option D := ZC.fs_power
theorem ln_power : ∀ args r, fs_power args = some r → args.length = 2 := FV.ln
theorem ev_power : ∀ args r, fs_power args = some r → ∃ n st', evS n (z_power ) (mkEnv N_power.length args) none = some (.ret r st') := FV.ev (k := 2)
noncomputable abbrev fs_prime_powers : List D → Option D := ZC.fs_prime_powers
theorem ln_prime_powers : ∀ args r, fs_prime_powers args = some r → args.length = 1 := FV.ln
theorem ev_prime_powers : ∀ args r, fs_prime_powers args = some r → ∃ n st', evS n (z_prime_powers ) (mkEnv N_prime_powers.length args) none = some (.ret r st') := FV.ev (k := 1)
noncomputable abbrev fs_power_by : List D → Option D := ZC.fs_power_by
theorem ln_power_by : ∀ args r, fs_power_by args = some r → args.length = 3 := FV.ln
theorem ev_power_by : ∀ args r, fs_power_by args = some r → ∃ n st', evS n (z_power_by ) (mkEnv N_power_by.length args) none = some (.ret r st') := FV.ev (k := 3)
noncomputable abbrev fs_greatest_order : List D → Option D := ZC.fs_greatest_order
theorem ln_greatest_order : ∀ args r, fs_greatest_order args = some r → args.length = 1 := FV.ln
theorem ev_greatest_order : ∀ args r, fs_greatest_order args = some r → ∃ n st', evS n (z_greatest_order fs_prime_powers fs_power) (mkEnv N_greatest_order.length args) none = some (.ret r st') := FV.ev (k := 1)
noncomputable abbrev fs_order_of : List D → Option D := ZC.fs_order_of
theorem ln_order_of : ∀ args r, fs_order_of args = some r → args.length = 2 := FV.ln
theorem ev_order_of : ∀ args r, fs_order_of args = some r → ∃ n st', evS n (z_order_of fs_greatest_order fs_prime_powers fs_power_by) (mkEnv N_order_of.length args) none = some (.ret r st') := FV.ev (k := 2)
noncomputable abbrev fs_expansion : List D → Option D := ZC.fs_expansion
theorem ln_expansion : ∀ args r, fs_expansion args = some r → args.length = 3 := FV.ln
theorem ev_expansion : ∀ args r, fs_expansion args = some r → ∃ n st', evS n (z_expansion ) (mkEnv N_expansion.length args) none = some (.ret r st') := FV.ev (k := 3)
noncomputable abbrev fs_number_of : List D → Option D := ZC.fs_number_of
theorem ln_number_of : ∀ args r, fs_number_of args = some r → args.length = 2 := FV.ln
theorem ev_number_of : ∀ args r, fs_number_of args = some r → ∃ n st', evS n (z_number_of ) (mkEnv N_number_of.length args) none = some (.ret r st') := FV.ev (k := 2)
noncomputable abbrev fs_value_of : List D → Option D := ZC.fs_value_of
theorem ln_value_of : ∀ args r, fs_value_of args = some r → args.length = 4 := FV.ln
theorem ev_value_of : ∀ args r, fs_value_of args = some r → ∃ n st', evS n (z_value_of fs_power fs_number_of) (mkEnv N_value_of.length args) none = some (.ret r st') := FV.ev (k := 4)
noncomputable abbrev fs_lengths_of : List D → Option D := ZC.fs_lengths_of
theorem ln_lengths_of : ∀ args r, fs_lengths_of args = some r → args.length = 2 := FV.ln
theorem ev_lengths_of : ∀ args r, fs_lengths_of args = some r → ∃ n st', evS n (z_lengths_of fs_power fs_order_of) (mkEnv N_lengths_of.length args) none = some (.ret r st') := FV.ev (k := 2)
noncomputable abbrev fs__law_state : List D → Option D := ZC.fs__law_state
abbrev fs__law_draw : D → List D → Option (D × D) := drawA
noncomputable abbrev fs__law_frac : List D → Option D := ZC.fs__law_frac
theorem ln__law_frac : ∀ args r, fs__law_frac args = some r → args.length = 2 := FV.ln
theorem ev__law_frac : ∀ args r, fs__law_frac args = some r → ∃ n st', evS n (z__law_frac ) (mkEnv N__law_frac.length args) none = some (.ret r st') := FV.ev (k := 2)
noncomputable abbrev fs__law_add : List D → Option D := ZC.fs__law_add
theorem ln__law_add : ∀ args r, fs__law_add args = some r → args.length = 2 := FV.ln
theorem ev__law_add : ∀ args r, fs__law_add args = some r → ∃ n st', evS n (z__law_add fs__law_frac) (mkEnv N__law_add.length args) none = some (.ret r st') := FV.ev (k := 2)
noncomputable abbrev fs__law_gcd : List D → Option D := ZC.fs__law_gcd
theorem ln__law_gcd : ∀ args r, fs__law_gcd args = some r → args.length = 2 := FV.ln
theorem ev__law_gcd : ∀ args r, fs__law_gcd args = some r → ∃ n st', evS n (z__law_gcd ) (mkEnv N__law_gcd.length args) none = some (.ret r st') := FV.ev (k := 2)
end K61
set_option exponentiation.threshold 10000
namespace K61
open PySem PySem.Spec PyProof.Rows L2 Z ZM ZC

noncomputable abbrev zl := z_law fs__law_state fs__law_draw fs_expansion fs__law_frac fs_lengths_of fs__law_gcd fs_value_of fs__law_add fs_order_of
theorem W.same {a b : ZS} {env : Z.Env} {st : SD} {Q : Out → Prop} (h : W a env st (fun o => o = .nx env st)) (q : W b env st Q) : W (.seq a b) env st Q := W.cut h (fun o e => by subst e; exact q)
theorem env21 {l : List Sl} (h : l.length = 21) : ∃ x2 x3 x4 x5 x6 x7 x8 x9 x10 x11 x12 x13 x14 x15 x16 x17 x18 x19 x20 x21 x22 : Sl, l = [x2, x3, x4, x5, x6, x7, x8, x9, x10, x11, x12, x13, x14, x15, x16, x17, x18, x19, x20, x21, x22] := by
  match l, h with
  | [x2, x3, x4, x5, x6, x7, x8, x9, x10, x11, x12, x13, x14, x15, x16, x17, x18, x19, x20, x21, x22], _ => exact ⟨x2, x3, x4, x5, x6, x7, x8, x9, x10, x11, x12, x13, x14, x15, x16, x17, x18, x19, x20, x21, x22, rfl⟩
theorem w_law {S : List D} (hS : Scr S) : W zl (.br (.list S) :: List.replicate 22 .no) none (fun o => ∃ st, o = .ret (.bool true) st) := by
  show W zl [.br (.list S), .no, .no, .no, .no, .no, .no, .no, .no, .no, .no, .no, .no, .no, .no, .no, .no, .no, .no, .no, .no, .no, .no] none _
  unfold zl z_law
  refine W.seq (w_asgM ?_)
  simp only [e_var, e_rd, e_sr, e_cst, e_op1, e_op2, e_op3, e_chain, e_band, e_bor, e_ife, e_anil, e_acons, e_lst, e_tup, e_bi, e_call, e_calls, e_sget, ls_l, gV_sh, gR_sh, gR_br, gR_ow, gS_sh, gS_br, gO_ow, gF_ow, gF_sh, sm_some, w_asg1, w_asg, w_asgO, w_par, w_ret, w_drop, w_aug, w_mut, w_seti, w_augi, w_pop, w_frz, w_sset, w_ife, w_skip, w_brk, w_cont, w_seq, kq_ret, kq_bk, kq_ct, kl_bk, kl_ret, br_b, decide_eq_true_eq, decide_eq_false_iff_not, Bool.not_eq_true', Bool.not_eq_false', reduceCtorEq, true_implies, false_implies, forall_const, not_true_eq_false, not_false_eq_true, and_true, true_and, implies_true, sm_add, sm_addI, sm_addL, sm_addT, sm_cat, sm_sub, sm_mul, sm_div, sm_mod, sm_pow, sm_neg, sm_lt, sm_le, sm_gt, sm_ge, sm_eqI, sm_neI, sm_eqB, sm_neB, sm_isN, sm_isNotN, sm_truI, sm_truB, sm_truN, sm_truL, sm_truT, sm_not, sm_ixL, sm_ixT, sm_at0, sm_at1, sm_at2, sm_lenL, sm_lenT, sm_abs, sm_int, sm_intB, sm_max2, sm_min2, sm_listL, sm_listT, sm_tupL, sm_tupT, sm_seqL, sm_seqT, sm_lsL, sm_rng1, sm_rng2, sm_rng3, sm_app, sm_rep1, sm_set1, sm_setN, sm_setC, sm_mixN, sm_mixC, sm_isi, sm_isi2, sm_item0, sm_item1, sm_iset0, sm_iset1, wipe_n, wipe_c, List.set_cons_zero, List.set_cons_succ, List.getElem?_cons_zero, List.getElem?_cons_succ, List.length_cons, List.length_nil, Nat.zero_le, Bool.false_eq_true, if_true, if_false, Bool.not_true, Bool.not_false, Bool.not_not]
  refine sm__law_state hS fun T hT => ?_
  rw [kq_nx]
  simp only [e_var, e_rd, e_sr, e_cst, e_op1, e_op2, e_op3, e_chain, e_band, e_bor, e_ife, e_anil, e_acons, e_lst, e_tup, e_bi, e_call, e_calls, e_sget, ls_l, gV_sh, gR_sh, gR_br, gR_ow, gS_sh, gS_br, gO_ow, gF_ow, gF_sh, sm_some, w_asg1, w_asg, w_asgO, w_par, w_ret, w_drop, w_aug, w_mut, w_seti, w_augi, w_pop, w_frz, w_sset, w_ife, w_skip, w_brk, w_cont, w_seq, kq_ret, kq_bk, kq_ct, kl_bk, kl_ret, br_b, decide_eq_true_eq, decide_eq_false_iff_not, Bool.not_eq_true', Bool.not_eq_false', reduceCtorEq, true_implies, false_implies, forall_const, not_true_eq_false, not_false_eq_true, and_true, true_and, implies_true, sm_add, sm_addI, sm_addL, sm_addT, sm_cat, sm_sub, sm_mul, sm_div, sm_mod, sm_pow, sm_neg, sm_lt, sm_le, sm_gt, sm_ge, sm_eqI, sm_neI, sm_eqB, sm_neB, sm_isN, sm_isNotN, sm_truI, sm_truB, sm_truN, sm_truL, sm_truT, sm_not, sm_ixL, sm_ixT, sm_at0, sm_at1, sm_at2, sm_lenL, sm_lenT, sm_abs, sm_int, sm_intB, sm_max2, sm_min2, sm_listL, sm_listT, sm_tupL, sm_tupT, sm_seqL, sm_seqT, sm_lsL, sm_rng1, sm_rng2, sm_rng3, sm_app, sm_rep1, sm_set1, sm_setN, sm_setC, sm_mixN, sm_mixC, sm_isi, sm_isi2, sm_item0, sm_item1, sm_iset0, sm_iset1, wipe_n, wipe_c, List.set_cons_zero, List.set_cons_succ, List.getElem?_cons_zero, List.getElem?_cons_succ, List.length_cons, List.length_nil, Nat.zero_le, Bool.false_eq_true, if_true, if_false, Bool.not_true, Bool.not_false, Bool.not_not]
  refine W.rng (fun t env st => ∃ (l : List Sl) (T : D), env = .br (.list S) :: .st :: l ∧ l.length = 21 ∧ st = some T ∧ GoodA T) 0 5 ?_ ⟨_, _, rfl, rfl, rfl, hT⟩ ?_ ?_
  · simp only [e_var, e_rd, e_sr, e_cst, e_op1, e_op2, e_op3, e_chain, e_band, e_bor, e_ife, e_anil, e_acons, e_lst, e_tup, e_bi, e_call, e_calls, e_sget, ls_l, gV_sh, gR_sh, gR_br, gR_ow, gS_sh, gS_br, gO_ow, gF_ow, gF_sh, sm_some, w_asg1, w_asg, w_asgO, w_par, w_ret, w_drop, w_aug, w_mut, w_seti, w_augi, w_pop, w_frz, w_sset, w_ife, w_skip, w_brk, w_cont, w_seq, kq_ret, kq_bk, kq_ct, kl_bk, kl_ret, br_b, decide_eq_true_eq, decide_eq_false_iff_not, Bool.not_eq_true', Bool.not_eq_false', reduceCtorEq, true_implies, false_implies, forall_const, not_true_eq_false, not_false_eq_true, and_true, true_and, implies_true, sm_add, sm_addI, sm_addL, sm_addT, sm_cat, sm_sub, sm_mul, sm_div, sm_mod, sm_pow, sm_neg, sm_lt, sm_le, sm_gt, sm_ge, sm_eqI, sm_neI, sm_eqB, sm_neB, sm_isN, sm_isNotN, sm_truI, sm_truB, sm_truN, sm_truL, sm_truT, sm_not, sm_ixL, sm_ixT, sm_at0, sm_at1, sm_at2, sm_lenL, sm_lenT, sm_abs, sm_int, sm_intB, sm_max2, sm_min2, sm_listL, sm_listT, sm_tupL, sm_tupT, sm_seqL, sm_seqT, sm_lsL, sm_rng1, sm_rng2, sm_rng3, sm_app, sm_rep1, sm_set1, sm_setN, sm_setC, sm_mixN, sm_mixC, sm_isi, sm_isi2, sm_item0, sm_item1, sm_iset0, sm_iset1, wipe_n, wipe_c, List.set_cons_zero, List.set_cons_succ, List.getElem?_cons_zero, List.getElem?_cons_succ, List.length_cons, List.length_nil, Nat.zero_le, Bool.false_eq_true, if_true, if_false, Bool.not_true, Bool.not_false, Bool.not_not]
    exact ⟨by decide, rfl⟩
  · rintro env st ⟨l, T, rfl, hl, rfl, hT⟩
    rw [kq_nx]
    (try simp only [e_var, e_rd, e_sr, e_cst, e_op1, e_op2, e_op3, e_chain, e_band, e_bor, e_ife, e_anil, e_acons, e_lst, e_tup, e_bi, e_call, e_calls, e_sget, ls_l, gV_sh, gR_sh, gR_br, gR_ow, gS_sh, gS_br, gO_ow, gF_ow, gF_sh, sm_some, w_asg1, w_asg, w_asgO, w_par, w_ret, w_drop, w_aug, w_mut, w_seti, w_augi, w_pop, w_frz, w_sset, w_ife, w_skip, w_brk, w_cont, w_seq, kq_ret, kq_bk, kq_ct, kl_bk, kl_ret, br_b, decide_eq_true_eq, decide_eq_false_iff_not, Bool.not_eq_true', Bool.not_eq_false', reduceCtorEq, true_implies, false_implies, forall_const, not_true_eq_false, not_false_eq_true, and_true, true_and, implies_true, sm_add, sm_addI, sm_addL, sm_addT, sm_cat, sm_sub, sm_mul, sm_div, sm_mod, sm_pow, sm_neg, sm_lt, sm_le, sm_gt, sm_ge, sm_eqI, sm_neI, sm_eqB, sm_neB, sm_isN, sm_isNotN, sm_truI, sm_truB, sm_truN, sm_truL, sm_truT, sm_not, sm_ixL, sm_ixT, sm_at0, sm_at1, sm_at2, sm_lenL, sm_lenT, sm_abs, sm_int, sm_intB, sm_max2, sm_min2, sm_listL, sm_listT, sm_tupL, sm_tupT, sm_seqL, sm_seqT, sm_lsL, sm_rng1, sm_rng2, sm_rng3, sm_app, sm_rep1, sm_set1, sm_setN, sm_setC, sm_mixN, sm_mixC, sm_isi, sm_isi2, sm_item0, sm_item1, sm_iset0, sm_iset1, wipe_n, wipe_c, List.set_cons_zero, List.set_cons_succ, List.getElem?_cons_zero, List.getElem?_cons_succ, List.length_cons, List.length_nil, Nat.zero_le, Bool.false_eq_true, if_true, if_false, Bool.not_true, Bool.not_false, Bool.not_not])
    exact ⟨_, rfl⟩
  · rintro t env st ht0 ht3 ⟨l, T, rfl, hl, rfl, hT⟩
    obtain ⟨x2, x3, x4, x5, x6, x7, x8, x9, x10, x11, x12, x13, x14, x15, x16, x17, x18, x19, x20, x21, x22, rfl⟩ := env21 hl
    (try simp only [e_var, e_rd, e_sr, e_cst, e_op1, e_op2, e_op3, e_chain, e_band, e_bor, e_ife, e_anil, e_acons, e_lst, e_tup, e_bi, e_call, e_calls, e_sget, ls_l, gV_sh, gR_sh, gR_br, gR_ow, gS_sh, gS_br, gO_ow, gF_ow, gF_sh, sm_some, w_asg1, w_asg, w_asgO, w_par, w_ret, w_drop, w_aug, w_mut, w_seti, w_augi, w_pop, w_frz, w_sset, w_ife, w_skip, w_brk, w_cont, w_seq, kq_ret, kq_bk, kq_ct, kl_bk, kl_ret, br_b, decide_eq_true_eq, decide_eq_false_iff_not, Bool.not_eq_true', Bool.not_eq_false', reduceCtorEq, true_implies, false_implies, forall_const, not_true_eq_false, not_false_eq_true, and_true, true_and, implies_true, sm_add, sm_addI, sm_addL, sm_addT, sm_cat, sm_sub, sm_mul, sm_div, sm_mod, sm_pow, sm_neg, sm_lt, sm_le, sm_gt, sm_ge, sm_eqI, sm_neI, sm_eqB, sm_neB, sm_isN, sm_isNotN, sm_truI, sm_truB, sm_truN, sm_truL, sm_truT, sm_not, sm_ixL, sm_ixT, sm_at0, sm_at1, sm_at2, sm_lenL, sm_lenT, sm_abs, sm_int, sm_intB, sm_max2, sm_min2, sm_listL, sm_listT, sm_tupL, sm_tupT, sm_seqL, sm_seqT, sm_lsL, sm_rng1, sm_rng2, sm_rng3, sm_app, sm_rep1, sm_set1, sm_setN, sm_setC, sm_mixN, sm_mixC, sm_isi, sm_isi2, sm_item0, sm_item1, sm_iset0, sm_iset1, wipe_n, wipe_c, List.set_cons_zero, List.set_cons_succ, List.getElem?_cons_zero, List.getElem?_cons_succ, List.length_cons, List.length_nil, Nat.zero_le, Bool.false_eq_true, if_true, if_false, Bool.not_true, Bool.not_false, Bool.not_not])
    refine sm_drawA hT fun db T hdb hT => ?_
    (try simp only [e_var, e_rd, e_sr, e_cst, e_op1, e_op2, e_op3, e_chain, e_band, e_bor, e_ife, e_anil, e_acons, e_lst, e_tup, e_bi, e_call, e_calls, e_sget, ls_l, gV_sh, gR_sh, gR_br, gR_ow, gS_sh, gS_br, gO_ow, gF_ow, gF_sh, sm_some, w_asg1, w_asg, w_asgO, w_par, w_ret, w_drop, w_aug, w_mut, w_seti, w_augi, w_pop, w_frz, w_sset, w_ife, w_skip, w_brk, w_cont, w_seq, kq_ret, kq_bk, kq_ct, kl_bk, kl_ret, br_b, decide_eq_true_eq, decide_eq_false_iff_not, Bool.not_eq_true', Bool.not_eq_false', reduceCtorEq, true_implies, false_implies, forall_const, not_true_eq_false, not_false_eq_true, and_true, true_and, implies_true, sm_add, sm_addI, sm_addL, sm_addT, sm_cat, sm_sub, sm_mul, sm_div, sm_mod, sm_pow, sm_neg, sm_lt, sm_le, sm_gt, sm_ge, sm_eqI, sm_neI, sm_eqB, sm_neB, sm_isN, sm_isNotN, sm_truI, sm_truB, sm_truN, sm_truL, sm_truT, sm_not, sm_ixL, sm_ixT, sm_at0, sm_at1, sm_at2, sm_lenL, sm_lenT, sm_abs, sm_int, sm_intB, sm_max2, sm_min2, sm_listL, sm_listT, sm_tupL, sm_tupT, sm_seqL, sm_seqT, sm_lsL, sm_rng1, sm_rng2, sm_rng3, sm_app, sm_rep1, sm_set1, sm_setN, sm_setC, sm_mixN, sm_mixC, sm_isi, sm_isi2, sm_item0, sm_item1, sm_iset0, sm_iset1, wipe_n, wipe_c, List.set_cons_zero, List.set_cons_succ, List.getElem?_cons_zero, List.getElem?_cons_succ, List.length_cons, List.length_nil, Nat.zero_le, Bool.false_eq_true, if_true, if_false, Bool.not_true, Bool.not_false, Bool.not_not])
    refine sm_drawA hT fun dq T hdq hT => ?_
    (try simp only [e_var, e_rd, e_sr, e_cst, e_op1, e_op2, e_op3, e_chain, e_band, e_bor, e_ife, e_anil, e_acons, e_lst, e_tup, e_bi, e_call, e_calls, e_sget, ls_l, gV_sh, gR_sh, gR_br, gR_ow, gS_sh, gS_br, gO_ow, gF_ow, gF_sh, sm_some, w_asg1, w_asg, w_asgO, w_par, w_ret, w_drop, w_aug, w_mut, w_seti, w_augi, w_pop, w_frz, w_sset, w_ife, w_skip, w_brk, w_cont, w_seq, kq_ret, kq_bk, kq_ct, kl_bk, kl_ret, br_b, decide_eq_true_eq, decide_eq_false_iff_not, Bool.not_eq_true', Bool.not_eq_false', reduceCtorEq, true_implies, false_implies, forall_const, not_true_eq_false, not_false_eq_true, and_true, true_and, implies_true, sm_add, sm_addI, sm_addL, sm_addT, sm_cat, sm_sub, sm_mul, sm_div, sm_mod, sm_pow, sm_neg, sm_lt, sm_le, sm_gt, sm_ge, sm_eqI, sm_neI, sm_eqB, sm_neB, sm_isN, sm_isNotN, sm_truI, sm_truB, sm_truN, sm_truL, sm_truT, sm_not, sm_ixL, sm_ixT, sm_at0, sm_at1, sm_at2, sm_lenL, sm_lenT, sm_abs, sm_int, sm_intB, sm_max2, sm_min2, sm_listL, sm_listT, sm_tupL, sm_tupT, sm_seqL, sm_seqT, sm_lsL, sm_rng1, sm_rng2, sm_rng3, sm_app, sm_rep1, sm_set1, sm_setN, sm_setC, sm_mixN, sm_mixC, sm_isi, sm_isi2, sm_item0, sm_item1, sm_iset0, sm_iset1, wipe_n, wipe_c, List.set_cons_zero, List.set_cons_succ, List.getElem?_cons_zero, List.getElem?_cons_succ, List.length_cons, List.length_nil, Nat.zero_le, Bool.false_eq_true, if_true, if_false, Bool.not_true, Bool.not_false, Bool.not_not])
    rw [show (2 : Int) + (db : Int) = ((db + 2 : Nat) : Int) by omega, show (2 : Int) + (dq : Int) = ((dq + 2 : Nat) : Int) by omega]
    have hb : 2 ≤ db + 2 ∧ db + 2 ≤ 10 := by omega
    have hq : 2 ≤ dq + 2 ∧ dq + 2 ≤ 151 := by omega
    generalize db + 2 = b at *
    generalize dq + 2 = q at *
    rw [kq_nx]
    (try simp only [e_var, e_rd, e_sr, e_cst, e_op1, e_op2, e_op3, e_chain, e_band, e_bor, e_ife, e_anil, e_acons, e_lst, e_tup, e_bi, e_call, e_calls, e_sget, ls_l, gV_sh, gR_sh, gR_br, gR_ow, gS_sh, gS_br, gO_ow, gF_ow, gF_sh, sm_some, w_asg1, w_asg, w_asgO, w_par, w_ret, w_drop, w_aug, w_mut, w_seti, w_augi, w_pop, w_frz, w_sset, w_ife, w_skip, w_brk, w_cont, w_seq, kq_ret, kq_bk, kq_ct, kl_bk, kl_ret, br_b, decide_eq_true_eq, decide_eq_false_iff_not, Bool.not_eq_true', Bool.not_eq_false', reduceCtorEq, true_implies, false_implies, forall_const, not_true_eq_false, not_false_eq_true, and_true, true_and, implies_true, sm_add, sm_addI, sm_addL, sm_addT, sm_cat, sm_sub, sm_mul, sm_div, sm_mod, sm_pow, sm_neg, sm_lt, sm_le, sm_gt, sm_ge, sm_eqI, sm_neI, sm_eqB, sm_neB, sm_isN, sm_isNotN, sm_truI, sm_truB, sm_truN, sm_truL, sm_truT, sm_not, sm_ixL, sm_ixT, sm_at0, sm_at1, sm_at2, sm_lenL, sm_lenT, sm_abs, sm_int, sm_intB, sm_max2, sm_min2, sm_listL, sm_listT, sm_tupL, sm_tupT, sm_seqL, sm_seqT, sm_lsL, sm_rng1, sm_rng2, sm_rng3, sm_app, sm_rep1, sm_set1, sm_setN, sm_setC, sm_mixN, sm_mixC, sm_isi, sm_isi2, sm_item0, sm_item1, sm_iset0, sm_iset1, wipe_n, wipe_c, List.set_cons_zero, List.set_cons_succ, List.getElem?_cons_zero, List.getElem?_cons_succ, List.length_cons, List.length_nil, Nat.zero_le, Bool.false_eq_true, if_true, if_false, Bool.not_true, Bool.not_false, Bool.not_not])
    refine sm_drawA hT (fun p T hp hT => ?_) (by omega) (by omega)
    have hpq : p < q := by omega
    have hbb : b * b ≤ 10 * 10 := Nat.mul_le_mul hb.2 hb.2
    have ebb : (b : Int) * (b : Int) = ((b * b : Nat) : Int) := by rw [Int.natCast_mul]
    have okb : mulOk b b = true := mul_sm
    rw [kq_nx]
    (try simp only [e_var, e_rd, e_sr, e_cst, e_op1, e_op2, e_op3, e_chain, e_band, e_bor, e_ife, e_anil, e_acons, e_lst, e_tup, e_bi, e_call, e_calls, e_sget, ls_l, gV_sh, gR_sh, gR_br, gR_ow, gS_sh, gS_br, gO_ow, gF_ow, gF_sh, sm_some, w_asg1, w_asg, w_asgO, w_par, w_ret, w_drop, w_aug, w_mut, w_seti, w_augi, w_pop, w_frz, w_sset, w_ife, w_skip, w_brk, w_cont, w_seq, kq_ret, kq_bk, kq_ct, kl_bk, kl_ret, br_b, decide_eq_true_eq, decide_eq_false_iff_not, Bool.not_eq_true', Bool.not_eq_false', reduceCtorEq, true_implies, false_implies, forall_const, not_true_eq_false, not_false_eq_true, and_true, true_and, implies_true, sm_add, sm_addI, sm_addL, sm_addT, sm_cat, sm_sub, sm_mul, sm_div, sm_mod, sm_pow, sm_neg, sm_lt, sm_le, sm_gt, sm_ge, sm_eqI, sm_neI, sm_eqB, sm_neB, sm_isN, sm_isNotN, sm_truI, sm_truB, sm_truN, sm_truL, sm_truT, sm_not, sm_ixL, sm_ixT, sm_at0, sm_at1, sm_at2, sm_lenL, sm_lenT, sm_abs, sm_int, sm_intB, sm_max2, sm_min2, sm_listL, sm_listT, sm_tupL, sm_tupT, sm_seqL, sm_seqT, sm_lsL, sm_rng1, sm_rng2, sm_rng3, sm_app, sm_rep1, sm_set1, sm_setN, sm_setC, sm_mixN, sm_mixC, sm_isi, sm_isi2, sm_item0, sm_item1, sm_iset0, sm_iset1, wipe_n, wipe_c, List.set_cons_zero, List.set_cons_succ, List.getElem?_cons_zero, List.getElem?_cons_succ, List.length_cons, List.length_nil, Nat.zero_le, Bool.false_eq_true, if_true, if_false, Bool.not_true, Bool.not_false, Bool.not_not])
    refine sm_expansion rfl rfl rfl (by omega) (by omega) (by omega) (by omega) fun a k E => ?_
    have hak := E.lt
    have hkq := E.le
    rw [Nat.div_eq_of_lt hpq]
    (try simp only [e_var, e_rd, e_sr, e_cst, e_op1, e_op2, e_op3, e_chain, e_band, e_bor, e_ife, e_anil, e_acons, e_lst, e_tup, e_bi, e_call, e_calls, e_sget, ls_l, gV_sh, gR_sh, gR_br, gR_ow, gS_sh, gS_br, gO_ow, gF_ow, gF_sh, sm_some, w_asg1, w_asg, w_asgO, w_par, w_ret, w_drop, w_aug, w_mut, w_seti, w_augi, w_pop, w_frz, w_sset, w_ife, w_skip, w_brk, w_cont, w_seq, kq_ret, kq_bk, kq_ct, kl_bk, kl_ret, br_b, decide_eq_true_eq, decide_eq_false_iff_not, Bool.not_eq_true', Bool.not_eq_false', reduceCtorEq, true_implies, false_implies, forall_const, not_true_eq_false, not_false_eq_true, and_true, true_and, implies_true, sm_add, sm_addI, sm_addL, sm_addT, sm_cat, sm_sub, sm_mul, sm_div, sm_mod, sm_pow, sm_neg, sm_lt, sm_le, sm_gt, sm_ge, sm_eqI, sm_neI, sm_eqB, sm_neB, sm_isN, sm_isNotN, sm_truI, sm_truB, sm_truN, sm_truL, sm_truT, sm_not, sm_ixL, sm_ixT, sm_at0, sm_at1, sm_at2, sm_lenL, sm_lenT, sm_abs, sm_int, sm_intB, sm_max2, sm_min2, sm_listL, sm_listT, sm_tupL, sm_tupT, sm_seqL, sm_seqT, sm_lsL, sm_rng1, sm_rng2, sm_rng3, sm_app, sm_rep1, sm_set1, sm_setN, sm_setC, sm_mixN, sm_mixC, sm_isi, sm_isi2, sm_item0, sm_item1, sm_iset0, sm_iset1, wipe_n, wipe_c, List.set_cons_zero, List.set_cons_succ, List.getElem?_cons_zero, List.getElem?_cons_succ, List.length_cons, List.length_nil, Nat.zero_le, Bool.false_eq_true, if_true, if_false, Bool.not_true, Bool.not_false, Bool.not_not])
    rw [kq_nx]
    (try simp only [e_var, e_rd, e_sr, e_cst, e_op1, e_op2, e_op3, e_chain, e_band, e_bor, e_ife, e_anil, e_acons, e_lst, e_tup, e_bi, e_call, e_calls, e_sget, ls_l, gV_sh, gR_sh, gR_br, gR_ow, gS_sh, gS_br, gO_ow, gF_ow, gF_sh, sm_some, w_asg1, w_asg, w_asgO, w_par, w_ret, w_drop, w_aug, w_mut, w_seti, w_augi, w_pop, w_frz, w_sset, w_ife, w_skip, w_brk, w_cont, w_seq, kq_ret, kq_bk, kq_ct, kl_bk, kl_ret, br_b, decide_eq_true_eq, decide_eq_false_iff_not, Bool.not_eq_true', Bool.not_eq_false', reduceCtorEq, true_implies, false_implies, forall_const, not_true_eq_false, not_false_eq_true, and_true, true_and, implies_true, sm_add, sm_addI, sm_addL, sm_addT, sm_cat, sm_sub, sm_mul, sm_div, sm_mod, sm_pow, sm_neg, sm_lt, sm_le, sm_gt, sm_ge, sm_eqI, sm_neI, sm_eqB, sm_neB, sm_isN, sm_isNotN, sm_truI, sm_truB, sm_truN, sm_truL, sm_truT, sm_not, sm_ixL, sm_ixT, sm_at0, sm_at1, sm_at2, sm_lenL, sm_lenT, sm_abs, sm_int, sm_intB, sm_max2, sm_min2, sm_listL, sm_listT, sm_tupL, sm_tupT, sm_seqL, sm_seqT, sm_lsL, sm_rng1, sm_rng2, sm_rng3, sm_app, sm_rep1, sm_set1, sm_setN, sm_setC, sm_mixN, sm_mixC, sm_isi, sm_isi2, sm_item0, sm_item1, sm_iset0, sm_iset1, wipe_n, wipe_c, List.set_cons_zero, List.set_cons_succ, List.getElem?_cons_zero, List.getElem?_cons_succ, List.length_cons, List.length_nil, Nat.zero_le, Bool.false_eq_true, if_true, if_false, Bool.not_true, Bool.not_false, Bool.not_not])
    obtain ⟨g, l, h, hg, ep, eq, hc, el, eh, hh⟩ := fr_low (p := p) (q := q) (by omega)
    refine sm__law_frac rfl rfl (by omega) (Nat.lt_of_le_of_lt hq.2 (by decide +kernel)) ?_
    rw [el, eh]
    have hhq : h ≤ q := by rw [eq]; exact Nat.le_mul_of_pos_left _ hg
    (try simp only [e_var, e_rd, e_sr, e_cst, e_op1, e_op2, e_op3, e_chain, e_band, e_bor, e_ife, e_anil, e_acons, e_lst, e_tup, e_bi, e_call, e_calls, e_sget, ls_l, gV_sh, gR_sh, gR_br, gR_ow, gS_sh, gS_br, gO_ow, gF_ow, gF_sh, sm_some, w_asg1, w_asg, w_asgO, w_par, w_ret, w_drop, w_aug, w_mut, w_seti, w_augi, w_pop, w_frz, w_sset, w_ife, w_skip, w_brk, w_cont, w_seq, kq_ret, kq_bk, kq_ct, kl_bk, kl_ret, br_b, decide_eq_true_eq, decide_eq_false_iff_not, Bool.not_eq_true', Bool.not_eq_false', reduceCtorEq, true_implies, false_implies, forall_const, not_true_eq_false, not_false_eq_true, and_true, true_and, implies_true, sm_add, sm_addI, sm_addL, sm_addT, sm_cat, sm_sub, sm_mul, sm_div, sm_mod, sm_pow, sm_neg, sm_lt, sm_le, sm_gt, sm_ge, sm_eqI, sm_neI, sm_eqB, sm_neB, sm_isN, sm_isNotN, sm_truI, sm_truB, sm_truN, sm_truL, sm_truT, sm_not, sm_ixL, sm_ixT, sm_at0, sm_at1, sm_at2, sm_lenL, sm_lenT, sm_abs, sm_int, sm_intB, sm_max2, sm_min2, sm_listL, sm_listT, sm_tupL, sm_tupT, sm_seqL, sm_seqT, sm_lsL, sm_rng1, sm_rng2, sm_rng3, sm_app, sm_rep1, sm_set1, sm_setN, sm_setC, sm_mixN, sm_mixC, sm_isi, sm_isi2, sm_item0, sm_item1, sm_iset0, sm_iset1, wipe_n, wipe_c, List.set_cons_zero, List.set_cons_succ, List.getElem?_cons_zero, List.getElem?_cons_succ, List.length_cons, List.length_nil, Nat.zero_le, Bool.false_eq_true, if_true, if_false, Bool.not_true, Bool.not_false, Bool.not_not])
    rw [kq_nx]
    -- lengths
    (try simp only [e_var, e_rd, e_sr, e_cst, e_op1, e_op2, e_op3, e_chain, e_band, e_bor, e_ife, e_anil, e_acons, e_lst, e_tup, e_bi, e_call, e_calls, e_sget, ls_l, gV_sh, gR_sh, gR_br, gR_ow, gS_sh, gS_br, gO_ow, gF_ow, gF_sh, sm_some, w_asg1, w_asg, w_asgO, w_par, w_ret, w_drop, w_aug, w_mut, w_seti, w_augi, w_pop, w_frz, w_sset, w_ife, w_skip, w_brk, w_cont, w_seq, kq_ret, kq_bk, kq_ct, kl_bk, kl_ret, br_b, decide_eq_true_eq, decide_eq_false_iff_not, Bool.not_eq_true', Bool.not_eq_false', reduceCtorEq, true_implies, false_implies, forall_const, not_true_eq_false, not_false_eq_true, and_true, true_and, implies_true, sm_add, sm_addI, sm_addL, sm_addT, sm_cat, sm_sub, sm_mul, sm_div, sm_mod, sm_pow, sm_neg, sm_lt, sm_le, sm_gt, sm_ge, sm_eqI, sm_neI, sm_eqB, sm_neB, sm_isN, sm_isNotN, sm_truI, sm_truB, sm_truN, sm_truL, sm_truT, sm_not, sm_ixL, sm_ixT, sm_at0, sm_at1, sm_at2, sm_lenL, sm_lenT, sm_abs, sm_int, sm_intB, sm_max2, sm_min2, sm_listL, sm_listT, sm_tupL, sm_tupT, sm_seqL, sm_seqT, sm_lsL, sm_rng1, sm_rng2, sm_rng3, sm_app, sm_rep1, sm_set1, sm_setN, sm_setC, sm_mixN, sm_mixC, sm_isi, sm_isi2, sm_item0, sm_item1, sm_iset0, sm_iset1, wipe_n, wipe_c, List.set_cons_zero, List.set_cons_succ, List.getElem?_cons_zero, List.getElem?_cons_succ, List.length_cons, List.length_nil, Nat.zero_le, Bool.false_eq_true, if_true, if_false, Bool.not_true, Bool.not_false, Bool.not_not, ebb])
    refine sm_lengths_of rfl rfl hh (by omega) (by omega) (by omega) fun l1 u1 k1 d1 c1 lk1 o1 => ?_
    (try simp only [e_var, e_rd, e_sr, e_cst, e_op1, e_op2, e_op3, e_chain, e_band, e_bor, e_ife, e_anil, e_acons, e_lst, e_tup, e_bi, e_call, e_calls, e_sget, ls_l, gV_sh, gR_sh, gR_br, gR_ow, gS_sh, gS_br, gO_ow, gF_ow, gF_sh, sm_some, w_asg1, w_asg, w_asgO, w_par, w_ret, w_drop, w_aug, w_mut, w_seti, w_augi, w_pop, w_frz, w_sset, w_ife, w_skip, w_brk, w_cont, w_seq, kq_ret, kq_bk, kq_ct, kl_bk, kl_ret, br_b, decide_eq_true_eq, decide_eq_false_iff_not, Bool.not_eq_true', Bool.not_eq_false', reduceCtorEq, true_implies, false_implies, forall_const, not_true_eq_false, not_false_eq_true, and_true, true_and, implies_true, sm_add, sm_addI, sm_addL, sm_addT, sm_cat, sm_sub, sm_mul, sm_div, sm_mod, sm_pow, sm_neg, sm_lt, sm_le, sm_gt, sm_ge, sm_eqI, sm_neI, sm_eqB, sm_neB, sm_isN, sm_isNotN, sm_truI, sm_truB, sm_truN, sm_truL, sm_truT, sm_not, sm_ixL, sm_ixT, sm_at0, sm_at1, sm_at2, sm_lenL, sm_lenT, sm_abs, sm_int, sm_intB, sm_max2, sm_min2, sm_listL, sm_listT, sm_tupL, sm_tupT, sm_seqL, sm_seqT, sm_lsL, sm_rng1, sm_rng2, sm_rng3, sm_app, sm_rep1, sm_set1, sm_setN, sm_setC, sm_mixN, sm_mixC, sm_isi, sm_isi2, sm_item0, sm_item1, sm_iset0, sm_iset1, wipe_n, wipe_c, List.set_cons_zero, List.set_cons_succ, List.getElem?_cons_zero, List.getElem?_cons_succ, List.length_cons, List.length_nil, Nat.zero_le, Bool.false_eq_true, if_true, if_false, Bool.not_true, Bool.not_false, Bool.not_not, ebb])
    refine ⟨okb, sm_lengths_of rfl rfl hh (by omega) (Nat.mul_pos (by omega) (by omega)) (by omega) fun l2 u2 k2 d2 c2 lk2 o2 => ?_⟩
    obtain ⟨rfl, rfl⟩ := c2.uniq hh c1.sq
    have ek := lk2.uniq lk1.sq
    have ed := o2.uniq (ZC.IsOrd.sq o1)
    (try simp only [e_var, e_rd, e_sr, e_cst, e_op1, e_op2, e_op3, e_chain, e_band, e_bor, e_ife, e_anil, e_acons, e_lst, e_tup, e_bi, e_call, e_calls, e_sget, ls_l, gV_sh, gR_sh, gR_br, gR_ow, gS_sh, gS_br, gO_ow, gF_ow, gF_sh, sm_some, w_asg1, w_asg, w_asgO, w_par, w_ret, w_drop, w_aug, w_mut, w_seti, w_augi, w_pop, w_frz, w_sset, w_ife, w_skip, w_brk, w_cont, w_seq, kq_ret, kq_bk, kq_ct, kl_bk, kl_ret, br_b, decide_eq_true_eq, decide_eq_false_iff_not, Bool.not_eq_true', Bool.not_eq_false', reduceCtorEq, true_implies, false_implies, forall_const, not_true_eq_false, not_false_eq_true, and_true, true_and, implies_true, sm_add, sm_addI, sm_addL, sm_addT, sm_cat, sm_sub, sm_mul, sm_div, sm_mod, sm_pow, sm_neg, sm_lt, sm_le, sm_gt, sm_ge, sm_eqI, sm_neI, sm_eqB, sm_neB, sm_isN, sm_isNotN, sm_truI, sm_truB, sm_truN, sm_truL, sm_truT, sm_not, sm_ixL, sm_ixT, sm_at0, sm_at1, sm_at2, sm_lenL, sm_lenT, sm_abs, sm_int, sm_intB, sm_max2, sm_min2, sm_listL, sm_listT, sm_tupL, sm_tupT, sm_seqL, sm_seqT, sm_lsL, sm_rng1, sm_rng2, sm_rng3, sm_app, sm_rep1, sm_set1, sm_setN, sm_setC, sm_mixN, sm_mixC, sm_isi, sm_isi2, sm_item0, sm_item1, sm_iset0, sm_iset1, wipe_n, wipe_c, List.set_cons_zero, List.set_cons_succ, List.getElem?_cons_zero, List.getElem?_cons_succ, List.length_cons, List.length_nil, Nat.zero_le, Bool.false_eq_true, if_true, if_false, Bool.not_true, Bool.not_false, Bool.not_not])
    rw [kq_nx]
    (try simp only [e_var, e_rd, e_sr, e_cst, e_op1, e_op2, e_op3, e_chain, e_band, e_bor, e_ife, e_anil, e_acons, e_lst, e_tup, e_bi, e_call, e_calls, e_sget, ls_l, gV_sh, gR_sh, gR_br, gR_ow, gS_sh, gS_br, gO_ow, gF_ow, gF_sh, sm_some, w_asg1, w_asg, w_asgO, w_par, w_ret, w_drop, w_aug, w_mut, w_seti, w_augi, w_pop, w_frz, w_sset, w_ife, w_skip, w_brk, w_cont, w_seq, kq_ret, kq_bk, kq_ct, kl_bk, kl_ret, br_b, decide_eq_true_eq, decide_eq_false_iff_not, Bool.not_eq_true', Bool.not_eq_false', reduceCtorEq, true_implies, false_implies, forall_const, not_true_eq_false, not_false_eq_true, and_true, true_and, implies_true, sm_add, sm_addI, sm_addL, sm_addT, sm_cat, sm_sub, sm_mul, sm_div, sm_mod, sm_pow, sm_neg, sm_lt, sm_le, sm_gt, sm_ge, sm_eqI, sm_neI, sm_eqB, sm_neB, sm_isN, sm_isNotN, sm_truI, sm_truB, sm_truN, sm_truL, sm_truT, sm_not, sm_ixL, sm_ixT, sm_at0, sm_at1, sm_at2, sm_lenL, sm_lenT, sm_abs, sm_int, sm_intB, sm_max2, sm_min2, sm_listL, sm_listT, sm_tupL, sm_tupT, sm_seqL, sm_seqT, sm_lsL, sm_rng1, sm_rng2, sm_rng3, sm_app, sm_rep1, sm_set1, sm_setN, sm_setC, sm_mixN, sm_mixC, sm_isi, sm_isi2, sm_item0, sm_item1, sm_iset0, sm_iset1, wipe_n, wipe_c, List.set_cons_zero, List.set_cons_succ, List.getElem?_cons_zero, List.getElem?_cons_succ, List.length_cons, List.length_nil, Nat.zero_le, Bool.false_eq_true, if_true, if_false, Bool.not_true, Bool.not_false, Bool.not_not])
    refine ⟨by decide, sm__law_gcd (b := 2) rfl rfl ?_⟩
    have hg2 : 0 < Nat.gcd d1 2 := Nat.gcd_pos_of_pos_left _ o1.pos
    have hg2' : Nat.gcd d1 2 ≤ 2 := Nat.gcd_le_right _ (by decide)
    (try simp only [e_var, e_rd, e_sr, e_cst, e_op1, e_op2, e_op3, e_chain, e_band, e_bor, e_ife, e_anil, e_acons, e_lst, e_tup, e_bi, e_call, e_calls, e_sget, ls_l, gV_sh, gR_sh, gR_br, gR_ow, gS_sh, gS_br, gO_ow, gF_ow, gF_sh, sm_some, w_asg1, w_asg, w_asgO, w_par, w_ret, w_drop, w_aug, w_mut, w_seti, w_augi, w_pop, w_frz, w_sset, w_ife, w_skip, w_brk, w_cont, w_seq, kq_ret, kq_bk, kq_ct, kl_bk, kl_ret, br_b, decide_eq_true_eq, decide_eq_false_iff_not, Bool.not_eq_true', Bool.not_eq_false', reduceCtorEq, true_implies, false_implies, forall_const, not_true_eq_false, not_false_eq_true, and_true, true_and, implies_true, sm_add, sm_addI, sm_addL, sm_addT, sm_cat, sm_sub, sm_mul, sm_div, sm_mod, sm_pow, sm_neg, sm_lt, sm_le, sm_gt, sm_ge, sm_eqI, sm_neI, sm_eqB, sm_neB, sm_isN, sm_isNotN, sm_truI, sm_truB, sm_truN, sm_truL, sm_truT, sm_not, sm_ixL, sm_ixT, sm_at0, sm_at1, sm_at2, sm_lenL, sm_lenT, sm_abs, sm_int, sm_intB, sm_max2, sm_min2, sm_listL, sm_listT, sm_tupL, sm_tupT, sm_seqL, sm_seqT, sm_lsL, sm_rng1, sm_rng2, sm_rng3, sm_app, sm_rep1, sm_set1, sm_setN, sm_setC, sm_mixN, sm_mixC, sm_isi, sm_isi2, sm_item0, sm_item1, sm_iset0, sm_iset1, wipe_n, wipe_c, List.set_cons_zero, List.set_cons_succ, List.getElem?_cons_zero, List.getElem?_cons_succ, List.length_cons, List.length_nil, Nat.zero_le, Bool.false_eq_true, if_true, if_false, Bool.not_true, Bool.not_false, Bool.not_not])
    refine ⟨div_sm, by decide, ?_⟩
    rw [show ((k1 : Int) + 1) / 2 = (k2 : Nat) by rw [ek, Int.natCast_ediv]; rfl, show (d1 : Int) / (Nat.gcd d1 2 : Nat) = (d2 : Nat) by rw [ed, Int.natCast_ediv]]
    refine sm_neS rfl ?_
    (try simp only [e_var, e_rd, e_sr, e_cst, e_op1, e_op2, e_op3, e_chain, e_band, e_bor, e_ife, e_anil, e_acons, e_lst, e_tup, e_bi, e_call, e_calls, e_sget, ls_l, gV_sh, gR_sh, gR_br, gR_ow, gS_sh, gS_br, gO_ow, gF_ow, gF_sh, sm_some, w_asg1, w_asg, w_asgO, w_par, w_ret, w_drop, w_aug, w_mut, w_seti, w_augi, w_pop, w_frz, w_sset, w_ife, w_skip, w_brk, w_cont, w_seq, kq_ret, kq_bk, kq_ct, kl_bk, kl_ret, br_b, decide_eq_true_eq, decide_eq_false_iff_not, Bool.not_eq_true', Bool.not_eq_false', reduceCtorEq, true_implies, false_implies, forall_const, not_true_eq_false, not_false_eq_true, and_true, true_and, implies_true, sm_add, sm_addI, sm_addL, sm_addT, sm_cat, sm_sub, sm_mul, sm_div, sm_mod, sm_pow, sm_neg, sm_lt, sm_le, sm_gt, sm_ge, sm_eqI, sm_neI, sm_eqB, sm_neB, sm_isN, sm_isNotN, sm_truI, sm_truB, sm_truN, sm_truL, sm_truT, sm_not, sm_ixL, sm_ixT, sm_at0, sm_at1, sm_at2, sm_lenL, sm_lenT, sm_abs, sm_int, sm_intB, sm_max2, sm_min2, sm_listL, sm_listT, sm_tupL, sm_tupT, sm_seqL, sm_seqT, sm_lsL, sm_rng1, sm_rng2, sm_rng3, sm_app, sm_rep1, sm_set1, sm_setN, sm_setC, sm_mixN, sm_mixC, sm_isi, sm_isi2, sm_item0, sm_item1, sm_iset0, sm_iset1, wipe_n, wipe_c, List.set_cons_zero, List.set_cons_succ, List.getElem?_cons_zero, List.getElem?_cons_succ, List.length_cons, List.length_nil, Nat.zero_le, Bool.false_eq_true, if_true, if_false, Bool.not_true, Bool.not_false, Bool.not_not])
    rw [kq_nx]
    -- far, long
    have hqq : q * (2 * q + 20) ≤ 151 * (2 * 151 + 20) := Nat.mul_le_mul hq.2 (by omega)
    have hper : (k - a) * (2 * (k - a) + 20) ≤ q * (2 * q + 20) := Nat.mul_le_mul (by omega) (by omega)
    have e1 : ((2 : Int) * ((k - a : Nat) : Int) + 20).toNat = 2 * (k - a) + 20 := by omega
    simp only [e_var, e_rd, e_sr, e_cst, e_op1, e_op2, e_op3, e_chain, e_band, e_bor, e_ife, e_anil, e_acons, e_lst, e_tup, e_bi, e_call, e_calls, e_sget, ls_l, gV_sh, gR_sh, gR_br, gR_ow, gS_sh, gS_br, gO_ow, gF_ow, gF_sh, sm_some, w_asg1, w_asg, w_asgO, w_par, w_ret, w_drop, w_aug, w_mut, w_seti, w_augi, w_pop, w_frz, w_sset, w_ife, w_skip, w_brk, w_cont, w_seq, kq_ret, kq_bk, kq_ct, kl_bk, kl_ret, br_b, decide_eq_true_eq, decide_eq_false_iff_not, Bool.not_eq_true', Bool.not_eq_false', reduceCtorEq, true_implies, false_implies, forall_const, not_true_eq_false, not_false_eq_true, and_true, true_and, implies_true, sm_add, sm_addI, sm_addL, sm_addT, sm_cat, sm_sub, sm_mul, sm_div, sm_mod, sm_pow, sm_neg, sm_lt, sm_le, sm_gt, sm_ge, sm_eqI, sm_neI, sm_eqB, sm_neB, sm_isN, sm_isNotN, sm_truI, sm_truB, sm_truN, sm_truL, sm_truT, sm_not, sm_ixL, sm_ixT, sm_at0, sm_at1, sm_at2, sm_lenL, sm_lenT, sm_abs, sm_int, sm_intB, sm_max2, sm_min2, sm_listL, sm_listT, sm_tupL, sm_tupT, sm_seqL, sm_seqT, sm_lsL, sm_rng1, sm_rng2, sm_rng3, sm_app, sm_rep1, sm_set1, sm_setN, sm_setC, sm_mixN, sm_mixC, sm_isi, sm_isi2, sm_item0, sm_item1, sm_iset0, sm_iset1, wipe_n, wipe_c, List.set_cons_zero, List.set_cons_succ, List.getElem?_cons_zero, List.getElem?_cons_succ, List.length_cons, List.length_nil, Nat.zero_le, Bool.false_eq_true, if_true, if_false, Bool.not_true, Bool.not_false, Bool.not_not, natsD_len, xFs_len]
    refine ⟨mul_sm, sm_rep.mpr ?_⟩
    rw [natsD_len, xFs_len, e1]
    refine ⟨⟨by omega, by omega, by omega⟩, ?_⟩
    rw [natsD_rep, xFs_rep E]
    simp only [e_var, e_rd, e_sr, e_cst, e_op1, e_op2, e_op3, e_chain, e_band, e_bor, e_ife, e_anil, e_acons, e_lst, e_tup, e_bi, e_call, e_calls, e_sget, ls_l, gV_sh, gR_sh, gR_br, gR_ow, gS_sh, gS_br, gO_ow, gF_ow, gF_sh, sm_some, w_asg1, w_asg, w_asgO, w_par, w_ret, w_drop, w_aug, w_mut, w_seti, w_augi, w_pop, w_frz, w_sset, w_ife, w_skip, w_brk, w_cont, w_seq, kq_ret, kq_bk, kq_ct, kl_bk, kl_ret, br_b, decide_eq_true_eq, decide_eq_false_iff_not, Bool.not_eq_true', Bool.not_eq_false', reduceCtorEq, true_implies, false_implies, forall_const, not_true_eq_false, not_false_eq_true, and_true, true_and, implies_true, sm_add, sm_addI, sm_addL, sm_addT, sm_cat, sm_sub, sm_mul, sm_div, sm_mod, sm_pow, sm_neg, sm_lt, sm_le, sm_gt, sm_ge, sm_eqI, sm_neI, sm_eqB, sm_neB, sm_isN, sm_isNotN, sm_truI, sm_truB, sm_truN, sm_truL, sm_truT, sm_not, sm_ixL, sm_ixT, sm_at0, sm_at1, sm_at2, sm_lenL, sm_lenT, sm_abs, sm_int, sm_intB, sm_max2, sm_min2, sm_listL, sm_listT, sm_tupL, sm_tupT, sm_seqL, sm_seqT, sm_lsL, sm_rng1, sm_rng2, sm_rng3, sm_app, sm_rep1, sm_set1, sm_setN, sm_setC, sm_mixN, sm_mixC, sm_isi, sm_isi2, sm_item0, sm_item1, sm_iset0, sm_iset1, wipe_n, wipe_c, List.set_cons_zero, List.set_cons_succ, List.getElem?_cons_zero, List.getElem?_cons_succ, List.length_cons, List.length_nil, Nat.zero_le, Bool.false_eq_true, if_true, if_false, Bool.not_true, Bool.not_false, Bool.not_not, natsD_len, xFs_len]
    rw [natsD_app]
    have e2 := xFs_far E (2 * (k - a) + 20)
    rw [xFs_rep E] at e2
    rw [e2, Nat.mul_comm (2 * (k - a) + 20)]
    generalize hM : a + (k - a) * (2 * (k - a) + 20) = M
    have hM20 : 20 ≤ M := by
      have : 1 * (2 * (k - a) + 20) ≤ (k - a) * (2 * (k - a) + 20) := Nat.mul_le_mul_right _ (by omega)
      omega
    refine ⟨by omega, ?_⟩
    rw [kq_nx]
    (try simp only [e_var, e_rd, e_sr, e_cst, e_op1, e_op2, e_op3, e_chain, e_band, e_bor, e_ife, e_anil, e_acons, e_lst, e_tup, e_bi, e_call, e_calls, e_sget, ls_l, gV_sh, gR_sh, gR_br, gR_ow, gS_sh, gS_br, gO_ow, gF_ow, gF_sh, sm_some, w_asg1, w_asg, w_asgO, w_par, w_ret, w_drop, w_aug, w_mut, w_seti, w_augi, w_pop, w_frz, w_sset, w_ife, w_skip, w_brk, w_cont, w_seq, kq_ret, kq_bk, kq_ct, kl_bk, kl_ret, br_b, decide_eq_true_eq, decide_eq_false_iff_not, Bool.not_eq_true', Bool.not_eq_false', reduceCtorEq, true_implies, false_implies, forall_const, not_true_eq_false, not_false_eq_true, and_true, true_and, implies_true, sm_add, sm_addI, sm_addL, sm_addT, sm_cat, sm_sub, sm_mul, sm_div, sm_mod, sm_pow, sm_neg, sm_lt, sm_le, sm_gt, sm_ge, sm_eqI, sm_neI, sm_eqB, sm_neB, sm_isN, sm_isNotN, sm_truI, sm_truB, sm_truN, sm_truL, sm_truT, sm_not, sm_ixL, sm_ixT, sm_at0, sm_at1, sm_at2, sm_lenL, sm_lenT, sm_abs, sm_int, sm_intB, sm_max2, sm_min2, sm_listL, sm_listT, sm_tupL, sm_tupT, sm_seqL, sm_seqT, sm_lsL, sm_rng1, sm_rng2, sm_rng3, sm_app, sm_rep1, sm_set1, sm_setN, sm_setC, sm_mixN, sm_mixC, sm_isi, sm_isi2, sm_item0, sm_item1, sm_iset0, sm_iset1, wipe_n, wipe_c, List.set_cons_zero, List.set_cons_succ, List.getElem?_cons_zero, List.getElem?_cons_succ, List.length_cons, List.length_nil, Nat.zero_le, Bool.false_eq_true, if_true, if_false, Bool.not_true, Bool.not_false, Bool.not_not, ebb])
    refine ⟨okb, sm_expansion rfl rfl rfl (by omega) (by omega) (by omega) (by omega) fun a' k' E' => ?_⟩
    have hak' := E'.lt
    have hkq' := E'.le
    rw [Nat.div_eq_of_lt hpq]
    (try simp only [e_var, e_rd, e_sr, e_cst, e_op1, e_op2, e_op3, e_chain, e_band, e_bor, e_ife, e_anil, e_acons, e_lst, e_tup, e_bi, e_call, e_calls, e_sget, ls_l, gV_sh, gR_sh, gR_br, gR_ow, gS_sh, gS_br, gO_ow, gF_ow, gF_sh, sm_some, w_asg1, w_asg, w_asgO, w_par, w_ret, w_drop, w_aug, w_mut, w_seti, w_augi, w_pop, w_frz, w_sset, w_ife, w_skip, w_brk, w_cont, w_seq, kq_ret, kq_bk, kq_ct, kl_bk, kl_ret, br_b, decide_eq_true_eq, decide_eq_false_iff_not, Bool.not_eq_true', Bool.not_eq_false', reduceCtorEq, true_implies, false_implies, forall_const, not_true_eq_false, not_false_eq_true, and_true, true_and, implies_true, sm_add, sm_addI, sm_addL, sm_addT, sm_cat, sm_sub, sm_mul, sm_div, sm_mod, sm_pow, sm_neg, sm_lt, sm_le, sm_gt, sm_ge, sm_eqI, sm_neI, sm_eqB, sm_neB, sm_isN, sm_isNotN, sm_truI, sm_truB, sm_truN, sm_truL, sm_truT, sm_not, sm_ixL, sm_ixT, sm_at0, sm_at1, sm_at2, sm_lenL, sm_lenT, sm_abs, sm_int, sm_intB, sm_max2, sm_min2, sm_listL, sm_listT, sm_tupL, sm_tupT, sm_seqL, sm_seqT, sm_lsL, sm_rng1, sm_rng2, sm_rng3, sm_app, sm_rep1, sm_set1, sm_setN, sm_setC, sm_mixN, sm_mixC, sm_isi, sm_isi2, sm_item0, sm_item1, sm_iset0, sm_iset1, wipe_n, wipe_c, List.set_cons_zero, List.set_cons_succ, List.getElem?_cons_zero, List.getElem?_cons_succ, List.length_cons, List.length_nil, Nat.zero_le, Bool.false_eq_true, if_true, if_false, Bool.not_true, Bool.not_false, Bool.not_not])
    rw [kq_nx]
    have hper' : (k' - a') * (2 * (k - a) + 20) ≤ q * (2 * q + 20) := Nat.mul_le_mul (by omega) (by omega)
    simp only [e_var, e_rd, e_sr, e_cst, e_op1, e_op2, e_op3, e_chain, e_band, e_bor, e_ife, e_anil, e_acons, e_lst, e_tup, e_bi, e_call, e_calls, e_sget, ls_l, gV_sh, gR_sh, gR_br, gR_ow, gS_sh, gS_br, gO_ow, gF_ow, gF_sh, sm_some, w_asg1, w_asg, w_asgO, w_par, w_ret, w_drop, w_aug, w_mut, w_seti, w_augi, w_pop, w_frz, w_sset, w_ife, w_skip, w_brk, w_cont, w_seq, kq_ret, kq_bk, kq_ct, kl_bk, kl_ret, br_b, decide_eq_true_eq, decide_eq_false_iff_not, Bool.not_eq_true', Bool.not_eq_false', reduceCtorEq, true_implies, false_implies, forall_const, not_true_eq_false, not_false_eq_true, and_true, true_and, implies_true, sm_add, sm_addI, sm_addL, sm_addT, sm_cat, sm_sub, sm_mul, sm_div, sm_mod, sm_pow, sm_neg, sm_lt, sm_le, sm_gt, sm_ge, sm_eqI, sm_neI, sm_eqB, sm_neB, sm_isN, sm_isNotN, sm_truI, sm_truB, sm_truN, sm_truL, sm_truT, sm_not, sm_ixL, sm_ixT, sm_at0, sm_at1, sm_at2, sm_lenL, sm_lenT, sm_abs, sm_int, sm_intB, sm_max2, sm_min2, sm_listL, sm_listT, sm_tupL, sm_tupT, sm_seqL, sm_seqT, sm_lsL, sm_rng1, sm_rng2, sm_rng3, sm_app, sm_rep1, sm_set1, sm_setN, sm_setC, sm_mixN, sm_mixC, sm_isi, sm_isi2, sm_item0, sm_item1, sm_iset0, sm_iset1, wipe_n, wipe_c, List.set_cons_zero, List.set_cons_succ, List.getElem?_cons_zero, List.getElem?_cons_succ, List.length_cons, List.length_nil, Nat.zero_le, Bool.false_eq_true, if_true, if_false, Bool.not_true, Bool.not_false, Bool.not_not, natsD_len, xFs_len]
    refine ⟨mul_sm, sm_rep.mpr ?_⟩
    rw [natsD_len, xFs_len, e1]
    refine ⟨⟨by omega, by omega, by omega⟩, ?_⟩
    rw [natsD_rep]
    simp only [e_var, e_rd, e_sr, e_cst, e_op1, e_op2, e_op3, e_chain, e_band, e_bor, e_ife, e_anil, e_acons, e_lst, e_tup, e_bi, e_call, e_calls, e_sget, ls_l, gV_sh, gR_sh, gR_br, gR_ow, gS_sh, gS_br, gO_ow, gF_ow, gF_sh, sm_some, w_asg1, w_asg, w_asgO, w_par, w_ret, w_drop, w_aug, w_mut, w_seti, w_augi, w_pop, w_frz, w_sset, w_ife, w_skip, w_brk, w_cont, w_seq, kq_ret, kq_bk, kq_ct, kl_bk, kl_ret, br_b, decide_eq_true_eq, decide_eq_false_iff_not, Bool.not_eq_true', Bool.not_eq_false', reduceCtorEq, true_implies, false_implies, forall_const, not_true_eq_false, not_false_eq_true, and_true, true_and, implies_true, sm_add, sm_addI, sm_addL, sm_addT, sm_cat, sm_sub, sm_mul, sm_div, sm_mod, sm_pow, sm_neg, sm_lt, sm_le, sm_gt, sm_ge, sm_eqI, sm_neI, sm_eqB, sm_neB, sm_isN, sm_isNotN, sm_truI, sm_truB, sm_truN, sm_truL, sm_truT, sm_not, sm_ixL, sm_ixT, sm_at0, sm_at1, sm_at2, sm_lenL, sm_lenT, sm_abs, sm_int, sm_intB, sm_max2, sm_min2, sm_listL, sm_listT, sm_tupL, sm_tupT, sm_seqL, sm_seqT, sm_lsL, sm_rng1, sm_rng2, sm_rng3, sm_app, sm_rep1, sm_set1, sm_setN, sm_setC, sm_mixN, sm_mixC, sm_isi, sm_isi2, sm_item0, sm_item1, sm_iset0, sm_iset1, wipe_n, wipe_c, List.set_cons_zero, List.set_cons_succ, List.getElem?_cons_zero, List.getElem?_cons_succ, List.length_cons, List.length_nil, Nat.zero_le, Bool.false_eq_true, if_true, if_false, Bool.not_true, Bool.not_false, Bool.not_not, natsD_len]
    rw [natsD_app, xFs_far E']
    generalize hM' : a' + (2 * (k - a) + 20) * (k' - a') = M'
    have hM20' : 20 ≤ M' := by
      have : (2 * (k - a) + 20) * 1 ≤ (2 * (k - a) + 20) * (k' - a') := Nat.mul_le_mul_left _ (by omega)
      omega
    refine ⟨?_, ?_⟩
    · rw [xFs_rep E', xFs_len, xFs_len]
      rw [Nat.mul_comm]; omega
    rw [kq_nx]
    (try simp only [e_var, e_rd, e_sr, e_cst, e_op1, e_op2, e_op3, e_chain, e_band, e_bor, e_ife, e_anil, e_acons, e_lst, e_tup, e_bi, e_call, e_calls, e_sget, ls_l, gV_sh, gR_sh, gR_br, gR_ow, gS_sh, gS_br, gO_ow, gF_ow, gF_sh, sm_some, w_asg1, w_asg, w_asgO, w_par, w_ret, w_drop, w_aug, w_mut, w_seti, w_augi, w_pop, w_frz, w_sset, w_ife, w_skip, w_brk, w_cont, w_seq, kq_ret, kq_bk, kq_ct, kl_bk, kl_ret, br_b, decide_eq_true_eq, decide_eq_false_iff_not, Bool.not_eq_true', Bool.not_eq_false', reduceCtorEq, true_implies, false_implies, forall_const, not_true_eq_false, not_false_eq_true, and_true, true_and, implies_true, sm_add, sm_addI, sm_addL, sm_addT, sm_cat, sm_sub, sm_mul, sm_div, sm_mod, sm_pow, sm_neg, sm_lt, sm_le, sm_gt, sm_ge, sm_eqI, sm_neI, sm_eqB, sm_neB, sm_isN, sm_isNotN, sm_truI, sm_truB, sm_truN, sm_truL, sm_truT, sm_not, sm_ixL, sm_ixT, sm_at0, sm_at1, sm_at2, sm_lenL, sm_lenT, sm_abs, sm_int, sm_intB, sm_max2, sm_min2, sm_listL, sm_listT, sm_tupL, sm_tupT, sm_seqL, sm_seqT, sm_lsL, sm_rng1, sm_rng2, sm_rng3, sm_app, sm_rep1, sm_set1, sm_setN, sm_setC, sm_mixN, sm_mixC, sm_isi, sm_isi2, sm_item0, sm_item1, sm_iset0, sm_iset1, wipe_n, wipe_c, List.set_cons_zero, List.set_cons_succ, List.getElem?_cons_zero, List.getElem?_cons_succ, List.length_cons, List.length_nil, Nat.zero_le, Bool.false_eq_true, if_true, if_false, Bool.not_true, Bool.not_false, Bool.not_not])
    refine e_comp_of (fun _ => false) (fun d => d) ?_
    (try simp only [e_var, e_rd, e_sr, e_cst, e_op1, e_op2, e_op3, e_chain, e_band, e_bor, e_ife, e_anil, e_acons, e_lst, e_tup, e_bi, e_call, e_calls, e_sget, ls_l, gV_sh, gR_sh, gR_br, gR_ow, gS_sh, gS_br, gO_ow, gF_ow, gF_sh, sm_some, w_asg1, w_asg, w_asgO, w_par, w_ret, w_drop, w_aug, w_mut, w_seti, w_augi, w_pop, w_frz, w_sset, w_ife, w_skip, w_brk, w_cont, w_seq, kq_ret, kq_bk, kq_ct, kl_bk, kl_ret, br_b, decide_eq_true_eq, decide_eq_false_iff_not, Bool.not_eq_true', Bool.not_eq_false', reduceCtorEq, true_implies, false_implies, forall_const, not_true_eq_false, not_false_eq_true, and_true, true_and, implies_true, sm_add, sm_addI, sm_addL, sm_addT, sm_cat, sm_sub, sm_mul, sm_div, sm_mod, sm_pow, sm_neg, sm_lt, sm_le, sm_gt, sm_ge, sm_eqI, sm_neI, sm_eqB, sm_neB, sm_isN, sm_isNotN, sm_truI, sm_truB, sm_truN, sm_truL, sm_truT, sm_not, sm_ixL, sm_ixT, sm_at0, sm_at1, sm_at2, sm_lenL, sm_lenT, sm_abs, sm_int, sm_intB, sm_max2, sm_min2, sm_listL, sm_listT, sm_tupL, sm_tupT, sm_seqL, sm_seqT, sm_lsL, sm_rng1, sm_rng2, sm_rng3, sm_app, sm_rep1, sm_set1, sm_setN, sm_setC, sm_mixN, sm_mixC, sm_isi, sm_isi2, sm_item0, sm_item1, sm_iset0, sm_iset1, wipe_n, wipe_c, List.set_cons_zero, List.set_cons_succ, List.getElem?_cons_zero, List.getElem?_cons_succ, List.length_cons, List.length_nil, Nat.zero_le, Bool.false_eq_true, if_true, if_false, Bool.not_true, Bool.not_false, Bool.not_not])
    refine ⟨by decide, by decide, fun t ht => ?_, ?_⟩
    · obtain ⟨i, hi, rfl⟩ := List.mem_map.mp (show t ∈ (List.range 8).map fun k : Nat => PyData.int (0 + (k : Int)) from ht)
      have hi8 := List.mem_range.mp hi
      rw [Int.zero_add]
      (try simp only [e_var, e_rd, e_sr, e_cst, e_op1, e_op2, e_op3, e_chain, e_band, e_bor, e_ife, e_anil, e_acons, e_lst, e_tup, e_bi, e_call, e_calls, e_sget, ls_l, gV_sh, gR_sh, gR_br, gR_ow, gS_sh, gS_br, gO_ow, gF_ow, gF_sh, sm_some, w_asg1, w_asg, w_asgO, w_par, w_ret, w_drop, w_aug, w_mut, w_seti, w_augi, w_pop, w_frz, w_sset, w_ife, w_skip, w_brk, w_cont, w_seq, kq_ret, kq_bk, kq_ct, kl_bk, kl_ret, br_b, decide_eq_true_eq, decide_eq_false_iff_not, Bool.not_eq_true', Bool.not_eq_false', reduceCtorEq, true_implies, false_implies, forall_const, not_true_eq_false, not_false_eq_true, and_true, true_and, implies_true, sm_add, sm_addI, sm_addL, sm_addT, sm_cat, sm_sub, sm_mul, sm_div, sm_mod, sm_pow, sm_neg, sm_lt, sm_le, sm_gt, sm_ge, sm_eqI, sm_neI, sm_eqB, sm_neB, sm_isN, sm_isNotN, sm_truI, sm_truB, sm_truN, sm_truL, sm_truT, sm_not, sm_ixL, sm_ixT, sm_at0, sm_at1, sm_at2, sm_lenL, sm_lenT, sm_abs, sm_int, sm_intB, sm_max2, sm_min2, sm_listL, sm_listT, sm_tupL, sm_tupT, sm_seqL, sm_seqT, sm_lsL, sm_rng1, sm_rng2, sm_rng3, sm_app, sm_rep1, sm_set1, sm_setN, sm_setC, sm_mixN, sm_mixC, sm_isi, sm_isi2, sm_item0, sm_item1, sm_iset0, sm_iset1, wipe_n, wipe_c, List.set_cons_zero, List.set_cons_succ, List.getElem?_cons_zero, List.getElem?_cons_succ, List.length_cons, List.length_nil, Nat.zero_le, Bool.false_eq_true, if_true, if_false, Bool.not_true, Bool.not_false, Bool.not_not])
      refine ⟨mul_sm, sm_at (by omega) (natsD_get (n := xF p q b (0 + 2 * i)) (by rw [show (2 * (i : Int)).toNat = 2 * i by omega]; exact xFs_get (by omega))) ?_⟩
      (try simp only [e_var, e_rd, e_sr, e_cst, e_op1, e_op2, e_op3, e_chain, e_band, e_bor, e_ife, e_anil, e_acons, e_lst, e_tup, e_bi, e_call, e_calls, e_sget, ls_l, gV_sh, gR_sh, gR_br, gR_ow, gS_sh, gS_br, gO_ow, gF_ow, gF_sh, sm_some, w_asg1, w_asg, w_asgO, w_par, w_ret, w_drop, w_aug, w_mut, w_seti, w_augi, w_pop, w_frz, w_sset, w_ife, w_skip, w_brk, w_cont, w_seq, kq_ret, kq_bk, kq_ct, kl_bk, kl_ret, br_b, decide_eq_true_eq, decide_eq_false_iff_not, Bool.not_eq_true', Bool.not_eq_false', reduceCtorEq, true_implies, false_implies, forall_const, not_true_eq_false, not_false_eq_true, and_true, true_and, implies_true, sm_add, sm_addI, sm_addL, sm_addT, sm_cat, sm_sub, sm_mul, sm_div, sm_mod, sm_pow, sm_neg, sm_lt, sm_le, sm_gt, sm_ge, sm_eqI, sm_neI, sm_eqB, sm_neB, sm_isN, sm_isNotN, sm_truI, sm_truB, sm_truN, sm_truL, sm_truT, sm_not, sm_ixL, sm_ixT, sm_at0, sm_at1, sm_at2, sm_lenL, sm_lenT, sm_abs, sm_int, sm_intB, sm_max2, sm_min2, sm_listL, sm_listT, sm_tupL, sm_tupT, sm_seqL, sm_seqT, sm_lsL, sm_rng1, sm_rng2, sm_rng3, sm_app, sm_rep1, sm_set1, sm_setN, sm_setC, sm_mixN, sm_mixC, sm_isi, sm_isi2, sm_item0, sm_item1, sm_iset0, sm_iset1, wipe_n, wipe_c, List.set_cons_zero, List.set_cons_succ, List.getElem?_cons_zero, List.getElem?_cons_succ, List.length_cons, List.length_nil, Nat.zero_le, Bool.false_eq_true, if_true, if_false, Bool.not_true, Bool.not_false, Bool.not_not])
      have f1 : xF p q b (0 + 2 * i) < b := xF_lt (by omega) (by omega)
      refine ⟨mul_sm, mul_sm, sm_at (by omega) (natsD_get (n := xF p q b (0 + (2 * i + 1))) (by rw [show (2 * (i : Int) + 1).toNat = 2 * i + 1 by omega]; exact xFs_get (by omega))) ?_⟩
      (try simp only [e_var, e_rd, e_sr, e_cst, e_op1, e_op2, e_op3, e_chain, e_band, e_bor, e_ife, e_anil, e_acons, e_lst, e_tup, e_bi, e_call, e_calls, e_sget, ls_l, gV_sh, gR_sh, gR_br, gR_ow, gS_sh, gS_br, gO_ow, gF_ow, gF_sh, sm_some, w_asg1, w_asg, w_asgO, w_par, w_ret, w_drop, w_aug, w_mut, w_seti, w_augi, w_pop, w_frz, w_sset, w_ife, w_skip, w_brk, w_cont, w_seq, kq_ret, kq_bk, kq_ct, kl_bk, kl_ret, br_b, decide_eq_true_eq, decide_eq_false_iff_not, Bool.not_eq_true', Bool.not_eq_false', reduceCtorEq, true_implies, false_implies, forall_const, not_true_eq_false, not_false_eq_true, and_true, true_and, implies_true, sm_add, sm_addI, sm_addL, sm_addT, sm_cat, sm_sub, sm_mul, sm_div, sm_mod, sm_pow, sm_neg, sm_lt, sm_le, sm_gt, sm_ge, sm_eqI, sm_neI, sm_eqB, sm_neB, sm_isN, sm_isNotN, sm_truI, sm_truB, sm_truN, sm_truL, sm_truT, sm_not, sm_ixL, sm_ixT, sm_at0, sm_at1, sm_at2, sm_lenL, sm_lenT, sm_abs, sm_int, sm_intB, sm_max2, sm_min2, sm_listL, sm_listT, sm_tupL, sm_tupT, sm_seqL, sm_seqT, sm_lsL, sm_rng1, sm_rng2, sm_rng3, sm_app, sm_rep1, sm_set1, sm_setN, sm_setC, sm_mixN, sm_mixC, sm_isi, sm_isi2, sm_item0, sm_item1, sm_iset0, sm_iset1, wipe_n, wipe_c, List.set_cons_zero, List.set_cons_succ, List.getElem?_cons_zero, List.getElem?_cons_succ, List.length_cons, List.length_nil, Nat.zero_le, Bool.false_eq_true, if_true, if_false, Bool.not_true, Bool.not_false, Bool.not_not])
      refine sm_at (by omega) (natsD_get (n := xF p q (b * b) (0 + i)) (by rw [Int.toNat_natCast]; exact xFs_get (by omega))) ?_
      (try simp only [e_var, e_rd, e_sr, e_cst, e_op1, e_op2, e_op3, e_chain, e_band, e_bor, e_ife, e_anil, e_acons, e_lst, e_tup, e_bi, e_call, e_calls, e_sget, ls_l, gV_sh, gR_sh, gR_br, gR_ow, gS_sh, gS_br, gO_ow, gF_ow, gF_sh, sm_some, w_asg1, w_asg, w_asgO, w_par, w_ret, w_drop, w_aug, w_mut, w_seti, w_augi, w_pop, w_frz, w_sset, w_ife, w_skip, w_brk, w_cont, w_seq, kq_ret, kq_bk, kq_ct, kl_bk, kl_ret, br_b, decide_eq_true_eq, decide_eq_false_iff_not, Bool.not_eq_true', Bool.not_eq_false', reduceCtorEq, true_implies, false_implies, forall_const, not_true_eq_false, not_false_eq_true, and_true, true_and, implies_true, sm_add, sm_addI, sm_addL, sm_addT, sm_cat, sm_sub, sm_mul, sm_div, sm_mod, sm_pow, sm_neg, sm_lt, sm_le, sm_gt, sm_ge, sm_eqI, sm_neI, sm_eqB, sm_neB, sm_isN, sm_isNotN, sm_truI, sm_truB, sm_truN, sm_truL, sm_truT, sm_not, sm_ixL, sm_ixT, sm_at0, sm_at1, sm_at2, sm_lenL, sm_lenT, sm_abs, sm_int, sm_intB, sm_max2, sm_min2, sm_listL, sm_listT, sm_tupL, sm_tupT, sm_seqL, sm_seqT, sm_lsL, sm_rng1, sm_rng2, sm_rng3, sm_app, sm_rep1, sm_set1, sm_setN, sm_setC, sm_mixN, sm_mixC, sm_isi, sm_isi2, sm_item0, sm_item1, sm_iset0, sm_iset1, wipe_n, wipe_c, List.set_cons_zero, List.set_cons_succ, List.getElem?_cons_zero, List.getElem?_cons_succ, List.length_cons, List.length_nil, Nat.zero_le, Bool.false_eq_true, if_true, if_false, Bool.not_true, Bool.not_false, Bool.not_not])
      rw [Nat.zero_add, Nat.zero_add, Nat.zero_add, xF_sq (by omega), Int.natCast_add, Int.natCast_mul]
      simp
    rw [show ∀ l : List D, l.filter (fun _ => false) = [] from fun l => by simp, List.map_nil]
    (try simp only [e_var, e_rd, e_sr, e_cst, e_op1, e_op2, e_op3, e_chain, e_band, e_bor, e_ife, e_anil, e_acons, e_lst, e_tup, e_bi, e_call, e_calls, e_sget, ls_l, gV_sh, gR_sh, gR_br, gR_ow, gS_sh, gS_br, gO_ow, gF_ow, gF_sh, sm_some, w_asg1, w_asg, w_asgO, w_par, w_ret, w_drop, w_aug, w_mut, w_seti, w_augi, w_pop, w_frz, w_sset, w_ife, w_skip, w_brk, w_cont, w_seq, kq_ret, kq_bk, kq_ct, kl_bk, kl_ret, br_b, decide_eq_true_eq, decide_eq_false_iff_not, Bool.not_eq_true', Bool.not_eq_false', reduceCtorEq, true_implies, false_implies, forall_const, not_true_eq_false, not_false_eq_true, and_true, true_and, implies_true, sm_add, sm_addI, sm_addL, sm_addT, sm_cat, sm_sub, sm_mul, sm_div, sm_mod, sm_pow, sm_neg, sm_lt, sm_le, sm_gt, sm_ge, sm_eqI, sm_neI, sm_eqB, sm_neB, sm_isN, sm_isNotN, sm_truI, sm_truB, sm_truN, sm_truL, sm_truT, sm_not, sm_ixL, sm_ixT, sm_at0, sm_at1, sm_at2, sm_lenL, sm_lenT, sm_abs, sm_int, sm_intB, sm_max2, sm_min2, sm_listL, sm_listT, sm_tupL, sm_tupT, sm_seqL, sm_seqT, sm_lsL, sm_rng1, sm_rng2, sm_rng3, sm_app, sm_rep1, sm_set1, sm_setN, sm_setC, sm_mixN, sm_mixC, sm_isi, sm_isi2, sm_item0, sm_item1, sm_iset0, sm_iset1, wipe_n, wipe_c, List.set_cons_zero, List.set_cons_succ, List.getElem?_cons_zero, List.getElem?_cons_succ, List.length_cons, List.length_nil, Nat.zero_le, Bool.false_eq_true, if_true, if_false, Bool.not_true, Bool.not_false, Bool.not_not])
    refine sm_neS rfl ?_
    (try simp only [e_var, e_rd, e_sr, e_cst, e_op1, e_op2, e_op3, e_chain, e_band, e_bor, e_ife, e_anil, e_acons, e_lst, e_tup, e_bi, e_call, e_calls, e_sget, ls_l, gV_sh, gR_sh, gR_br, gR_ow, gS_sh, gS_br, gO_ow, gF_ow, gF_sh, sm_some, w_asg1, w_asg, w_asgO, w_par, w_ret, w_drop, w_aug, w_mut, w_seti, w_augi, w_pop, w_frz, w_sset, w_ife, w_skip, w_brk, w_cont, w_seq, kq_ret, kq_bk, kq_ct, kl_bk, kl_ret, br_b, decide_eq_true_eq, decide_eq_false_iff_not, Bool.not_eq_true', Bool.not_eq_false', reduceCtorEq, true_implies, false_implies, forall_const, not_true_eq_false, not_false_eq_true, and_true, true_and, implies_true, sm_add, sm_addI, sm_addL, sm_addT, sm_cat, sm_sub, sm_mul, sm_div, sm_mod, sm_pow, sm_neg, sm_lt, sm_le, sm_gt, sm_ge, sm_eqI, sm_neI, sm_eqB, sm_neB, sm_isN, sm_isNotN, sm_truI, sm_truB, sm_truN, sm_truL, sm_truT, sm_not, sm_ixL, sm_ixT, sm_at0, sm_at1, sm_at2, sm_lenL, sm_lenT, sm_abs, sm_int, sm_intB, sm_max2, sm_min2, sm_listL, sm_listT, sm_tupL, sm_tupT, sm_seqL, sm_seqT, sm_lsL, sm_rng1, sm_rng2, sm_rng3, sm_app, sm_rep1, sm_set1, sm_setN, sm_setC, sm_mixN, sm_mixC, sm_isi, sm_isi2, sm_item0, sm_item1, sm_iset0, sm_iset1, wipe_n, wipe_c, List.set_cons_zero, List.set_cons_succ, List.getElem?_cons_zero, List.getElem?_cons_succ, List.length_cons, List.length_nil, Nat.zero_le, Bool.false_eq_true, if_true, if_false, Bool.not_true, Bool.not_false, Bool.not_not])
    rw [kq_nx]
    -- times the base
    have epb : (p : Int) * (b : Int) = ((p * b : Nat) : Int) := by rw [Int.natCast_mul]
    have hpb : p * b ≤ 151 * 10 := Nat.mul_le_mul (by omega) hb.2
    (try simp only [e_var, e_rd, e_sr, e_cst, e_op1, e_op2, e_op3, e_chain, e_band, e_bor, e_ife, e_anil, e_acons, e_lst, e_tup, e_bi, e_call, e_calls, e_sget, ls_l, gV_sh, gR_sh, gR_br, gR_ow, gS_sh, gS_br, gO_ow, gF_ow, gF_sh, sm_some, w_asg1, w_asg, w_asgO, w_par, w_ret, w_drop, w_aug, w_mut, w_seti, w_augi, w_pop, w_frz, w_sset, w_ife, w_skip, w_brk, w_cont, w_seq, kq_ret, kq_bk, kq_ct, kl_bk, kl_ret, br_b, decide_eq_true_eq, decide_eq_false_iff_not, Bool.not_eq_true', Bool.not_eq_false', reduceCtorEq, true_implies, false_implies, forall_const, not_true_eq_false, not_false_eq_true, and_true, true_and, implies_true, sm_add, sm_addI, sm_addL, sm_addT, sm_cat, sm_sub, sm_mul, sm_div, sm_mod, sm_pow, sm_neg, sm_lt, sm_le, sm_gt, sm_ge, sm_eqI, sm_neI, sm_eqB, sm_neB, sm_isN, sm_isNotN, sm_truI, sm_truB, sm_truN, sm_truL, sm_truT, sm_not, sm_ixL, sm_ixT, sm_at0, sm_at1, sm_at2, sm_lenL, sm_lenT, sm_abs, sm_int, sm_intB, sm_max2, sm_min2, sm_listL, sm_listT, sm_tupL, sm_tupT, sm_seqL, sm_seqT, sm_lsL, sm_rng1, sm_rng2, sm_rng3, sm_app, sm_rep1, sm_set1, sm_setN, sm_setC, sm_mixN, sm_mixC, sm_isi, sm_isi2, sm_item0, sm_item1, sm_iset0, sm_iset1, wipe_n, wipe_c, List.set_cons_zero, List.set_cons_succ, List.getElem?_cons_zero, List.getElem?_cons_succ, List.length_cons, List.length_nil, Nat.zero_le, Bool.false_eq_true, if_true, if_false, Bool.not_true, Bool.not_false, Bool.not_not, epb])
    refine ⟨mul_sm, sm_expansion rfl rfl rfl (by omega) (by omega) (by omega) (by omega) fun a2 k2' E2 => ?_⟩
    have hak2 := E2.lt
    have hkq2 := E2.le
    (try simp only [e_var, e_rd, e_sr, e_cst, e_op1, e_op2, e_op3, e_chain, e_band, e_bor, e_ife, e_anil, e_acons, e_lst, e_tup, e_bi, e_call, e_calls, e_sget, ls_l, gV_sh, gR_sh, gR_br, gR_ow, gS_sh, gS_br, gO_ow, gF_ow, gF_sh, sm_some, w_asg1, w_asg, w_asgO, w_par, w_ret, w_drop, w_aug, w_mut, w_seti, w_augi, w_pop, w_frz, w_sset, w_ife, w_skip, w_brk, w_cont, w_seq, kq_ret, kq_bk, kq_ct, kl_bk, kl_ret, br_b, decide_eq_true_eq, decide_eq_false_iff_not, Bool.not_eq_true', Bool.not_eq_false', reduceCtorEq, true_implies, false_implies, forall_const, not_true_eq_false, not_false_eq_true, and_true, true_and, implies_true, sm_add, sm_addI, sm_addL, sm_addT, sm_cat, sm_sub, sm_mul, sm_div, sm_mod, sm_pow, sm_neg, sm_lt, sm_le, sm_gt, sm_ge, sm_eqI, sm_neI, sm_eqB, sm_neB, sm_isN, sm_isNotN, sm_truI, sm_truB, sm_truN, sm_truL, sm_truT, sm_not, sm_ixL, sm_ixT, sm_at0, sm_at1, sm_at2, sm_lenL, sm_lenT, sm_abs, sm_int, sm_intB, sm_max2, sm_min2, sm_listL, sm_listT, sm_tupL, sm_tupT, sm_seqL, sm_seqT, sm_lsL, sm_rng1, sm_rng2, sm_rng3, sm_app, sm_rep1, sm_set1, sm_setN, sm_setC, sm_mixN, sm_mixC, sm_isi, sm_isi2, sm_item0, sm_item1, sm_iset0, sm_iset1, wipe_n, wipe_c, List.set_cons_zero, List.set_cons_succ, List.getElem?_cons_zero, List.getElem?_cons_succ, List.length_cons, List.length_nil, Nat.zero_le, Bool.false_eq_true, if_true, if_false, Bool.not_true, Bool.not_false, Bool.not_not])
    rw [kq_nx]
    (try simp only [e_var, e_rd, e_sr, e_cst, e_op1, e_op2, e_op3, e_chain, e_band, e_bor, e_ife, e_anil, e_acons, e_lst, e_tup, e_bi, e_call, e_calls, e_sget, ls_l, gV_sh, gR_sh, gR_br, gR_ow, gS_sh, gS_br, gO_ow, gF_ow, gF_sh, sm_some, w_asg1, w_asg, w_asgO, w_par, w_ret, w_drop, w_aug, w_mut, w_seti, w_augi, w_pop, w_frz, w_sset, w_ife, w_skip, w_brk, w_cont, w_seq, kq_ret, kq_bk, kq_ct, kl_bk, kl_ret, br_b, decide_eq_true_eq, decide_eq_false_iff_not, Bool.not_eq_true', Bool.not_eq_false', reduceCtorEq, true_implies, false_implies, forall_const, not_true_eq_false, not_false_eq_true, and_true, true_and, implies_true, sm_add, sm_addI, sm_addL, sm_addT, sm_cat, sm_sub, sm_mul, sm_div, sm_mod, sm_pow, sm_neg, sm_lt, sm_le, sm_gt, sm_ge, sm_eqI, sm_neI, sm_eqB, sm_neB, sm_isN, sm_isNotN, sm_truI, sm_truB, sm_truN, sm_truL, sm_truT, sm_not, sm_ixL, sm_ixT, sm_at0, sm_at1, sm_at2, sm_lenL, sm_lenT, sm_abs, sm_int, sm_intB, sm_max2, sm_min2, sm_listL, sm_listT, sm_tupL, sm_tupT, sm_seqL, sm_seqT, sm_lsL, sm_rng1, sm_rng2, sm_rng3, sm_app, sm_rep1, sm_set1, sm_setN, sm_setC, sm_mixN, sm_mixC, sm_isi, sm_isi2, sm_item0, sm_item1, sm_iset0, sm_iset1, wipe_n, wipe_c, List.set_cons_zero, List.set_cons_succ, List.getElem?_cons_zero, List.getElem?_cons_succ, List.length_cons, List.length_nil, Nat.zero_le, Bool.false_eq_true, if_true, if_false, Bool.not_true, Bool.not_false, Bool.not_not, natsD_len, xFs_len])
    refine sm_rep.mpr ?_
    rw [natsD_len, xFs_len, show (40 : Int).toNat = 40 by rfl]
    refine ⟨⟨by omega, by omega, by omega⟩, ?_⟩
    rw [natsD_rep]
    simp only [e_var, e_rd, e_sr, e_cst, e_op1, e_op2, e_op3, e_chain, e_band, e_bor, e_ife, e_anil, e_acons, e_lst, e_tup, e_bi, e_call, e_calls, e_sget, ls_l, gV_sh, gR_sh, gR_br, gR_ow, gS_sh, gS_br, gO_ow, gF_ow, gF_sh, sm_some, w_asg1, w_asg, w_asgO, w_par, w_ret, w_drop, w_aug, w_mut, w_seti, w_augi, w_pop, w_frz, w_sset, w_ife, w_skip, w_brk, w_cont, w_seq, kq_ret, kq_bk, kq_ct, kl_bk, kl_ret, br_b, decide_eq_true_eq, decide_eq_false_iff_not, Bool.not_eq_true', Bool.not_eq_false', reduceCtorEq, true_implies, false_implies, forall_const, not_true_eq_false, not_false_eq_true, and_true, true_and, implies_true, sm_add, sm_addI, sm_addL, sm_addT, sm_cat, sm_sub, sm_mul, sm_div, sm_mod, sm_pow, sm_neg, sm_lt, sm_le, sm_gt, sm_ge, sm_eqI, sm_neI, sm_eqB, sm_neB, sm_isN, sm_isNotN, sm_truI, sm_truB, sm_truN, sm_truL, sm_truT, sm_not, sm_ixL, sm_ixT, sm_at0, sm_at1, sm_at2, sm_lenL, sm_lenT, sm_abs, sm_int, sm_intB, sm_max2, sm_min2, sm_listL, sm_listT, sm_tupL, sm_tupT, sm_seqL, sm_seqT, sm_lsL, sm_rng1, sm_rng2, sm_rng3, sm_app, sm_rep1, sm_set1, sm_setN, sm_setC, sm_mixN, sm_mixC, sm_isi, sm_isi2, sm_item0, sm_item1, sm_iset0, sm_iset1, wipe_n, wipe_c, List.set_cons_zero, List.set_cons_succ, List.getElem?_cons_zero, List.getElem?_cons_succ, List.length_cons, List.length_nil, Nat.zero_le, Bool.false_eq_true, if_true, if_false, Bool.not_true, Bool.not_false, Bool.not_not, natsD_len]
    rw [natsD_app, xFs_far E2]
    refine ⟨?_, ?_⟩
    · rw [xFs_rep E2, xFs_len, xFs_len]; omega
    rw [kq_nx]
    (try simp only [e_var, e_rd, e_sr, e_cst, e_op1, e_op2, e_op3, e_chain, e_band, e_bor, e_ife, e_anil, e_acons, e_lst, e_tup, e_bi, e_call, e_calls, e_sget, ls_l, gV_sh, gR_sh, gR_br, gR_ow, gS_sh, gS_br, gO_ow, gF_ow, gF_sh, sm_some, w_asg1, w_asg, w_asgO, w_par, w_ret, w_drop, w_aug, w_mut, w_seti, w_augi, w_pop, w_frz, w_sset, w_ife, w_skip, w_brk, w_cont, w_seq, kq_ret, kq_bk, kq_ct, kl_bk, kl_ret, br_b, decide_eq_true_eq, decide_eq_false_iff_not, Bool.not_eq_true', Bool.not_eq_false', reduceCtorEq, true_implies, false_implies, forall_const, not_true_eq_false, not_false_eq_true, and_true, true_and, implies_true, sm_add, sm_addI, sm_addL, sm_addT, sm_cat, sm_sub, sm_mul, sm_div, sm_mod, sm_pow, sm_neg, sm_lt, sm_le, sm_gt, sm_ge, sm_eqI, sm_neI, sm_eqB, sm_neB, sm_isN, sm_isNotN, sm_truI, sm_truB, sm_truN, sm_truL, sm_truT, sm_not, sm_ixL, sm_ixT, sm_at0, sm_at1, sm_at2, sm_lenL, sm_lenT, sm_abs, sm_int, sm_intB, sm_max2, sm_min2, sm_listL, sm_listT, sm_tupL, sm_tupT, sm_seqL, sm_seqT, sm_lsL, sm_rng1, sm_rng2, sm_rng3, sm_app, sm_rep1, sm_set1, sm_setN, sm_setC, sm_mixN, sm_mixC, sm_isi, sm_isi2, sm_item0, sm_item1, sm_iset0, sm_iset1, wipe_n, wipe_c, List.set_cons_zero, List.set_cons_succ, List.getElem?_cons_zero, List.getElem?_cons_succ, List.length_cons, List.length_nil, Nat.zero_le, Bool.false_eq_true, if_true, if_false, Bool.not_true, Bool.not_false, Bool.not_not])
    refine sm_at (by omega) (natsD_get (i := 0) (n := xF p q b (0 + 0)) (xFs_get (by omega))) ?_
    have e3 : xF p q b (0 + 0) = p * b / q := by
      unfold xF xR
      rw [Nat.zero_add, Nat.pow_zero, Nat.mul_one, Nat.mod_eq_of_lt hpq]
    rw [e3]
    (try simp only [e_var, e_rd, e_sr, e_cst, e_op1, e_op2, e_op3, e_chain, e_band, e_bor, e_ife, e_anil, e_acons, e_lst, e_tup, e_bi, e_call, e_calls, e_sget, ls_l, gV_sh, gR_sh, gR_br, gR_ow, gS_sh, gS_br, gO_ow, gF_ow, gF_sh, sm_some, w_asg1, w_asg, w_asgO, w_par, w_ret, w_drop, w_aug, w_mut, w_seti, w_augi, w_pop, w_frz, w_sset, w_ife, w_skip, w_brk, w_cont, w_seq, kq_ret, kq_bk, kq_ct, kl_bk, kl_ret, br_b, decide_eq_true_eq, decide_eq_false_iff_not, Bool.not_eq_true', Bool.not_eq_false', reduceCtorEq, true_implies, false_implies, forall_const, not_true_eq_false, not_false_eq_true, and_true, true_and, implies_true, sm_add, sm_addI, sm_addL, sm_addT, sm_cat, sm_sub, sm_mul, sm_div, sm_mod, sm_pow, sm_neg, sm_lt, sm_le, sm_gt, sm_ge, sm_eqI, sm_neI, sm_eqB, sm_neB, sm_isN, sm_isNotN, sm_truI, sm_truB, sm_truN, sm_truL, sm_truT, sm_not, sm_ixL, sm_ixT, sm_at0, sm_at1, sm_at2, sm_lenL, sm_lenT, sm_abs, sm_int, sm_intB, sm_max2, sm_min2, sm_listL, sm_listT, sm_tupL, sm_tupT, sm_seqL, sm_seqT, sm_lsL, sm_rng1, sm_rng2, sm_rng3, sm_app, sm_rep1, sm_set1, sm_setN, sm_setC, sm_mixN, sm_mixC, sm_isi, sm_isi2, sm_item0, sm_item1, sm_iset0, sm_iset1, wipe_n, wipe_c, List.set_cons_zero, List.set_cons_succ, List.getElem?_cons_zero, List.getElem?_cons_succ, List.length_cons, List.length_nil, Nat.zero_le, Bool.false_eq_true, if_true, if_false, Bool.not_true, Bool.not_false, Bool.not_not, sm_intO])
    refine sm_slTo (k := 10) ?_
    (try simp only [e_var, e_rd, e_sr, e_cst, e_op1, e_op2, e_op3, e_chain, e_band, e_bor, e_ife, e_anil, e_acons, e_lst, e_tup, e_bi, e_call, e_calls, e_sget, ls_l, gV_sh, gR_sh, gR_br, gR_ow, gS_sh, gS_br, gO_ow, gF_ow, gF_sh, sm_some, w_asg1, w_asg, w_asgO, w_par, w_ret, w_drop, w_aug, w_mut, w_seti, w_augi, w_pop, w_frz, w_sset, w_ife, w_skip, w_brk, w_cont, w_seq, kq_ret, kq_bk, kq_ct, kl_bk, kl_ret, br_b, decide_eq_true_eq, decide_eq_false_iff_not, Bool.not_eq_true', Bool.not_eq_false', reduceCtorEq, true_implies, false_implies, forall_const, not_true_eq_false, not_false_eq_true, and_true, true_and, implies_true, sm_add, sm_addI, sm_addL, sm_addT, sm_cat, sm_sub, sm_mul, sm_div, sm_mod, sm_pow, sm_neg, sm_lt, sm_le, sm_gt, sm_ge, sm_eqI, sm_neI, sm_eqB, sm_neB, sm_isN, sm_isNotN, sm_truI, sm_truB, sm_truN, sm_truL, sm_truT, sm_not, sm_ixL, sm_ixT, sm_at0, sm_at1, sm_at2, sm_lenL, sm_lenT, sm_abs, sm_int, sm_intB, sm_max2, sm_min2, sm_listL, sm_listT, sm_tupL, sm_tupT, sm_seqL, sm_seqT, sm_lsL, sm_rng1, sm_rng2, sm_rng3, sm_app, sm_rep1, sm_set1, sm_setN, sm_setC, sm_mixN, sm_mixC, sm_isi, sm_isi2, sm_item0, sm_item1, sm_iset0, sm_iset1, wipe_n, wipe_c, List.set_cons_zero, List.set_cons_succ, List.getElem?_cons_zero, List.getElem?_cons_succ, List.length_cons, List.length_nil, Nat.zero_le, Bool.false_eq_true, if_true, if_false, Bool.not_true, Bool.not_false, Bool.not_not, sm_intO])
    refine sm_slTwo (i := 1) (j := 11) ?_
    rw [natsD_take, natsD_drop, natsD_take, xFs_take (by omega), xFs_drop (by omega), xFs_take (by omega), xFs_mul]
    refine sm_neNL.mpr ?_
    (try simp only [e_var, e_rd, e_sr, e_cst, e_op1, e_op2, e_op3, e_chain, e_band, e_bor, e_ife, e_anil, e_acons, e_lst, e_tup, e_bi, e_call, e_calls, e_sget, ls_l, gV_sh, gR_sh, gR_br, gR_ow, gS_sh, gS_br, gO_ow, gF_ow, gF_sh, sm_some, w_asg1, w_asg, w_asgO, w_par, w_ret, w_drop, w_aug, w_mut, w_seti, w_augi, w_pop, w_frz, w_sset, w_ife, w_skip, w_brk, w_cont, w_seq, kq_ret, kq_bk, kq_ct, kl_bk, kl_ret, br_b, decide_eq_true_eq, decide_eq_false_iff_not, Bool.not_eq_true', Bool.not_eq_false', reduceCtorEq, true_implies, false_implies, forall_const, not_true_eq_false, not_false_eq_true, and_true, true_and, implies_true, sm_add, sm_addI, sm_addL, sm_addT, sm_cat, sm_sub, sm_mul, sm_div, sm_mod, sm_pow, sm_neg, sm_lt, sm_le, sm_gt, sm_ge, sm_eqI, sm_neI, sm_eqB, sm_neB, sm_isN, sm_isNotN, sm_truI, sm_truB, sm_truN, sm_truL, sm_truT, sm_not, sm_ixL, sm_ixT, sm_at0, sm_at1, sm_at2, sm_lenL, sm_lenT, sm_abs, sm_int, sm_intB, sm_max2, sm_min2, sm_listL, sm_listT, sm_tupL, sm_tupT, sm_seqL, sm_seqT, sm_lsL, sm_rng1, sm_rng2, sm_rng3, sm_app, sm_rep1, sm_set1, sm_setN, sm_setC, sm_mixN, sm_mixC, sm_isi, sm_isi2, sm_item0, sm_item1, sm_iset0, sm_iset1, wipe_n, wipe_c, List.set_cons_zero, List.set_cons_succ, List.getElem?_cons_zero, List.getElem?_cons_succ, List.length_cons, List.length_nil, Nat.zero_le, Bool.false_eq_true, if_true, if_false, Bool.not_true, Bool.not_false, Bool.not_not])
    rw [kq_nx]
    -- ends
    (try simp only [e_var, e_rd, e_sr, e_cst, e_op1, e_op2, e_op3, e_chain, e_band, e_bor, e_ife, e_anil, e_acons, e_lst, e_tup, e_bi, e_call, e_calls, e_sget, ls_l, gV_sh, gR_sh, gR_br, gR_ow, gS_sh, gS_br, gO_ow, gF_ow, gF_sh, sm_some, w_asg1, w_asg, w_asgO, w_par, w_ret, w_drop, w_aug, w_mut, w_seti, w_augi, w_pop, w_frz, w_sset, w_ife, w_skip, w_brk, w_cont, w_seq, kq_ret, kq_bk, kq_ct, kl_bk, kl_ret, br_b, decide_eq_true_eq, decide_eq_false_iff_not, Bool.not_eq_true', Bool.not_eq_false', reduceCtorEq, true_implies, false_implies, forall_const, not_true_eq_false, not_false_eq_true, and_true, true_and, implies_true, sm_add, sm_addI, sm_addL, sm_addT, sm_cat, sm_sub, sm_mul, sm_div, sm_mod, sm_pow, sm_neg, sm_lt, sm_le, sm_gt, sm_ge, sm_eqI, sm_neI, sm_eqB, sm_neB, sm_isN, sm_isNotN, sm_truI, sm_truB, sm_truN, sm_truL, sm_truT, sm_not, sm_ixL, sm_ixT, sm_at0, sm_at1, sm_at2, sm_lenL, sm_lenT, sm_abs, sm_int, sm_intB, sm_max2, sm_min2, sm_listL, sm_listT, sm_tupL, sm_tupT, sm_seqL, sm_seqT, sm_lsL, sm_rng1, sm_rng2, sm_rng3, sm_app, sm_rep1, sm_set1, sm_setN, sm_setC, sm_mixN, sm_mixC, sm_isi, sm_isi2, sm_item0, sm_item1, sm_iset0, sm_iset1, wipe_n, wipe_c, List.set_cons_zero, List.set_cons_succ, List.getElem?_cons_zero, List.getElem?_cons_succ, List.length_cons, List.length_nil, Nat.zero_le, Bool.false_eq_true, if_true, if_false, Bool.not_true, Bool.not_false, Bool.not_not])
    refine ⟨by decide, (sm_eqNT (l := xFs p q b a (k - a)) (m := [0])).mpr ?_⟩
    rw [kq_nx]
    (try simp only [e_var, e_rd, e_sr, e_cst, e_op1, e_op2, e_op3, e_chain, e_band, e_bor, e_ife, e_anil, e_acons, e_lst, e_tup, e_bi, e_call, e_calls, e_sget, ls_l, gV_sh, gR_sh, gR_br, gR_ow, gS_sh, gS_br, gO_ow, gF_ow, gF_sh, sm_some, w_asg1, w_asg, w_asgO, w_par, w_ret, w_drop, w_aug, w_mut, w_seti, w_augi, w_pop, w_frz, w_sset, w_ife, w_skip, w_brk, w_cont, w_seq, kq_ret, kq_bk, kq_ct, kl_bk, kl_ret, br_b, decide_eq_true_eq, decide_eq_false_iff_not, Bool.not_eq_true', Bool.not_eq_false', reduceCtorEq, true_implies, false_implies, forall_const, not_true_eq_false, not_false_eq_true, and_true, true_and, implies_true, sm_add, sm_addI, sm_addL, sm_addT, sm_cat, sm_sub, sm_mul, sm_div, sm_mod, sm_pow, sm_neg, sm_lt, sm_le, sm_gt, sm_ge, sm_eqI, sm_neI, sm_eqB, sm_neB, sm_isN, sm_isNotN, sm_truI, sm_truB, sm_truN, sm_truL, sm_truT, sm_not, sm_ixL, sm_ixT, sm_at0, sm_at1, sm_at2, sm_lenL, sm_lenT, sm_abs, sm_int, sm_intB, sm_max2, sm_min2, sm_listL, sm_listT, sm_tupL, sm_tupT, sm_seqL, sm_seqT, sm_lsL, sm_rng1, sm_rng2, sm_rng3, sm_app, sm_rep1, sm_set1, sm_setN, sm_setC, sm_mixN, sm_mixC, sm_isi, sm_isi2, sm_item0, sm_item1, sm_iset0, sm_iset1, wipe_n, wipe_c, List.set_cons_zero, List.set_cons_succ, List.getElem?_cons_zero, List.getElem?_cons_succ, List.length_cons, List.length_nil, Nat.zero_le, Bool.false_eq_true, if_true, if_false, Bool.not_true, Bool.not_false, Bool.not_not])
    rw [kq_nx, w_seq]
    have sb4 : Sz 4 (b : Int) := by unfold Sz; omega
    refine W.acc (i := 10) (v := 11) (fun j => .int ((b : Int) ^ j)) 0 a ?_ (by rw [Int.pow_zero]; rfl) (by simp) (by decide) ?_ ?_
    · (try simp only [e_var, e_rd, e_sr, e_cst, e_op1, e_op2, e_op3, e_chain, e_band, e_bor, e_ife, e_anil, e_acons, e_lst, e_tup, e_bi, e_call, e_calls, e_sget, ls_l, gV_sh, gR_sh, gR_br, gR_ow, gS_sh, gS_br, gO_ow, gF_ow, gF_sh, sm_some, w_asg1, w_asg, w_asgO, w_par, w_ret, w_drop, w_aug, w_mut, w_seti, w_augi, w_pop, w_frz, w_sset, w_ife, w_skip, w_brk, w_cont, w_seq, kq_ret, kq_bk, kq_ct, kl_bk, kl_ret, br_b, decide_eq_true_eq, decide_eq_false_iff_not, Bool.not_eq_true', Bool.not_eq_false', reduceCtorEq, true_implies, false_implies, forall_const, not_true_eq_false, not_false_eq_true, and_true, true_and, implies_true, sm_add, sm_addI, sm_addL, sm_addT, sm_cat, sm_sub, sm_mul, sm_div, sm_mod, sm_pow, sm_neg, sm_lt, sm_le, sm_gt, sm_ge, sm_eqI, sm_neI, sm_eqB, sm_neB, sm_isN, sm_isNotN, sm_truI, sm_truB, sm_truN, sm_truL, sm_truT, sm_not, sm_ixL, sm_ixT, sm_at0, sm_at1, sm_at2, sm_lenL, sm_lenT, sm_abs, sm_int, sm_intB, sm_max2, sm_min2, sm_listL, sm_listT, sm_tupL, sm_tupT, sm_seqL, sm_seqT, sm_lsL, sm_rng1, sm_rng2, sm_rng3, sm_app, sm_rep1, sm_set1, sm_setN, sm_setC, sm_mixN, sm_mixC, sm_isi, sm_isi2, sm_item0, sm_item1, sm_iset0, sm_iset1, wipe_n, wipe_c, List.set_cons_zero, List.set_cons_succ, List.getElem?_cons_zero, List.getElem?_cons_succ, List.length_cons, List.length_nil, Nat.zero_le, Bool.false_eq_true, if_true, if_false, Bool.not_true, Bool.not_false, Bool.not_not, natsD_len, xFs_len])
      refine ⟨by omega, ?_⟩
      congr 2
    · intro j hj
      (try simp only [e_var, e_rd, e_sr, e_cst, e_op1, e_op2, e_op3, e_chain, e_band, e_bor, e_ife, e_anil, e_acons, e_lst, e_tup, e_bi, e_call, e_calls, e_sget, ls_l, gV_sh, gR_sh, gR_br, gR_ow, gS_sh, gS_br, gO_ow, gF_ow, gF_sh, sm_some, w_asg1, w_asg, w_asgO, w_par, w_ret, w_drop, w_aug, w_mut, w_seti, w_augi, w_pop, w_frz, w_sset, w_ife, w_skip, w_brk, w_cont, w_seq, kq_ret, kq_bk, kq_ct, kl_bk, kl_ret, br_b, decide_eq_true_eq, decide_eq_false_iff_not, Bool.not_eq_true', Bool.not_eq_false', reduceCtorEq, true_implies, false_implies, forall_const, not_true_eq_false, not_false_eq_true, and_true, true_and, implies_true, sm_add, sm_addI, sm_addL, sm_addT, sm_cat, sm_sub, sm_mul, sm_div, sm_mod, sm_pow, sm_neg, sm_lt, sm_le, sm_gt, sm_ge, sm_eqI, sm_neI, sm_eqB, sm_neB, sm_isN, sm_isNotN, sm_truI, sm_truB, sm_truN, sm_truL, sm_truT, sm_not, sm_ixL, sm_ixT, sm_at0, sm_at1, sm_at2, sm_lenL, sm_lenT, sm_abs, sm_int, sm_intB, sm_max2, sm_min2, sm_listL, sm_listT, sm_tupL, sm_tupT, sm_seqL, sm_seqT, sm_lsL, sm_rng1, sm_rng2, sm_rng3, sm_app, sm_rep1, sm_set1, sm_setN, sm_setC, sm_mixN, sm_mixC, sm_isi, sm_isi2, sm_item0, sm_item1, sm_iset0, sm_iset1, wipe_n, wipe_c, List.set_cons_zero, List.set_cons_succ, List.getElem?_cons_zero, List.getElem?_cons_succ, List.length_cons, List.length_nil, Nat.zero_le, Bool.false_eq_true, if_true, if_false, Bool.not_true, Bool.not_false, Bool.not_not])
      exact ⟨mul_ok ((sb4.pow j).mono (show _ ≤ 1000 by omega)) sb4, by rw [Int.pow_succ]⟩
    intro s11
    rw [kq_nx]
    (try simp only [e_var, e_rd, e_sr, e_cst, e_op1, e_op2, e_op3, e_chain, e_band, e_bor, e_ife, e_anil, e_acons, e_lst, e_tup, e_bi, e_call, e_calls, e_sget, ls_l, gV_sh, gR_sh, gR_br, gR_ow, gS_sh, gS_br, gO_ow, gF_ow, gF_sh, sm_some, w_asg1, w_asg, w_asgO, w_par, w_ret, w_drop, w_aug, w_mut, w_seti, w_augi, w_pop, w_frz, w_sset, w_ife, w_skip, w_brk, w_cont, w_seq, kq_ret, kq_bk, kq_ct, kl_bk, kl_ret, br_b, decide_eq_true_eq, decide_eq_false_iff_not, Bool.not_eq_true', Bool.not_eq_false', reduceCtorEq, true_implies, false_implies, forall_const, not_true_eq_false, not_false_eq_true, and_true, true_and, implies_true, sm_add, sm_addI, sm_addL, sm_addT, sm_cat, sm_sub, sm_mul, sm_div, sm_mod, sm_pow, sm_neg, sm_lt, sm_le, sm_gt, sm_ge, sm_eqI, sm_neI, sm_eqB, sm_neB, sm_isN, sm_isNotN, sm_truI, sm_truB, sm_truN, sm_truL, sm_truT, sm_not, sm_ixL, sm_ixT, sm_at0, sm_at1, sm_at2, sm_lenL, sm_lenT, sm_abs, sm_int, sm_intB, sm_max2, sm_min2, sm_listL, sm_listT, sm_tupL, sm_tupT, sm_seqL, sm_seqT, sm_lsL, sm_rng1, sm_rng2, sm_rng3, sm_app, sm_rep1, sm_set1, sm_setN, sm_setC, sm_mixN, sm_mixC, sm_isi, sm_isi2, sm_item0, sm_item1, sm_iset0, sm_iset1, wipe_n, wipe_c, List.set_cons_zero, List.set_cons_succ, List.getElem?_cons_zero, List.getElem?_cons_succ, List.length_cons, List.length_nil, Nat.zero_le, Bool.false_eq_true, if_true, if_false, Bool.not_true, Bool.not_false, Bool.not_not])
    rw [← Int.natCast_pow]
    have hends : (xFs p q b a (k - a) = [0]) ↔ ((b ^ a : Nat) : Int) % (h : Int) = 0 := by
      rw [ends_iff (by omega) hb.1 E, md_iff, ep, eq, xR_iff hg hc]
    have hN := nfI_lt (b := b) (xFs p q b 0 a) 0 (xFs_lt (by omega) (by omega))
    rw [Nat.zero_add, Nat.one_mul, xFs_len] at hN
    have hba : b ^ a ≤ 10 ^ 151 := Nat.le_trans (Nat.pow_le_pow_left hb.2 a) (Nat.pow_le_pow_right (by decide) (by omega))
    have hba8 : b ^ a < 2 ^ 600 := Nat.lt_of_le_of_lt hba (by decide +kernel)
    have hba1 : b ^ (a + 1) < 2 ^ 8900 := by
      rw [Nat.pow_succ]
      have : b ^ a * b < 2 ^ 600 * 2 ^ 4 := Nat.mul_lt_mul_of_lt_of_le hba8 (by omega) (by decide)
      exact Nat.lt_of_lt_of_le this (by rw [← Nat.pow_add]; exact Nat.pow_le_pow_right (by decide) (by decide))
    have hbap : 1 ≤ b ^ a := Nat.pow_pos (by omega)
    refine ⟨by omega, fun c => ?_, fun c => ⟨by decide, ?_⟩⟩
    · exfalso
      rw [show decide (xFs p q b a (k - a) = [0]) = decide (((b ^ a : Nat) : Int) % (h : Int) = 0) from by rw [decide_eq_decide]; exact hends] at c
      simp at c
    have vb : ∀ d ∈ [b - 1], d < b := fun d hd => by
      simp only [List.mem_cons, List.not_mem_nil, or_false] at hd
      omega
    have v0 : ∀ d ∈ [0], d < b := fun d hd => by
      simp only [List.mem_cons, List.not_mem_nil, or_false] at hd
      omega
    refine sm_value_of (w := 0) (b := b) (bs := xFs p q b 0 a) (rs := [b - 1]) rfl rfl hb.1 (by omega) (xFs_lt (by omega) (by omega)) vb (Nat.le_refl _) (by rw [xFs_len]; simp; omega) (by decide) (by rw [xFs_len]; exact hba1) ?_ |> fun z => (show Sm _ _ from by
      have e5 : PyData.tuple [PyData.int ((b : Int) - 1)] = .tuple (natsD [b - 1]) := by
        rw [show (b : Int) - 1 = ((b - 1 : Nat) : Int) by omega]; rfl
      rw [e5]; exact z)
    (try simp only [e_var, e_rd, e_sr, e_cst, e_op1, e_op2, e_op3, e_chain, e_band, e_bor, e_ife, e_anil, e_acons, e_lst, e_tup, e_bi, e_call, e_calls, e_sget, ls_l, gV_sh, gR_sh, gR_br, gR_ow, gS_sh, gS_br, gO_ow, gF_ow, gF_sh, sm_some, w_asg1, w_asg, w_asgO, w_par, w_ret, w_drop, w_aug, w_mut, w_seti, w_augi, w_pop, w_frz, w_sset, w_ife, w_skip, w_brk, w_cont, w_seq, kq_ret, kq_bk, kq_ct, kl_bk, kl_ret, br_b, decide_eq_true_eq, decide_eq_false_iff_not, Bool.not_eq_true', Bool.not_eq_false', reduceCtorEq, true_implies, false_implies, forall_const, not_true_eq_false, not_false_eq_true, and_true, true_and, implies_true, sm_add, sm_addI, sm_addL, sm_addT, sm_cat, sm_sub, sm_mul, sm_div, sm_mod, sm_pow, sm_neg, sm_lt, sm_le, sm_gt, sm_ge, sm_eqI, sm_neI, sm_eqB, sm_neB, sm_isN, sm_isNotN, sm_truI, sm_truB, sm_truN, sm_truL, sm_truT, sm_not, sm_ixL, sm_ixT, sm_at0, sm_at1, sm_at2, sm_lenL, sm_lenT, sm_abs, sm_int, sm_intB, sm_max2, sm_min2, sm_listL, sm_listT, sm_tupL, sm_tupT, sm_seqL, sm_seqT, sm_lsL, sm_rng1, sm_rng2, sm_rng3, sm_app, sm_rep1, sm_set1, sm_setN, sm_setC, sm_mixN, sm_mixC, sm_isi, sm_isi2, sm_item0, sm_item1, sm_iset0, sm_iset1, wipe_n, wipe_c, List.set_cons_zero, List.set_cons_succ, List.getElem?_cons_zero, List.getElem?_cons_succ, List.length_cons, List.length_nil, Nat.zero_le, Bool.false_eq_true, if_true, if_false, Bool.not_true, Bool.not_false, Bool.not_not])
    refine ⟨by decide, sm_value_of (w := 0) (b := b) (bs := xFs p q b 0 a) (rs := [0]) rfl rfl hb.1 (by omega) (xFs_lt (by omega) (by omega)) v0 (by decide) (by rw [xFs_len]; simp; omega) (by decide) (by rw [xFs_len]; exact hba1) ?_⟩
    have eM : ∀ d, voM b (xFs p q b 0 a) [d] = b ^ a * (b - 1) := fun d => by
      unfold voM; rw [xFs_len]; simp
    have eP1 : voP 0 b (xFs p q b 0 a) [b - 1] = (nfI b 0 (xFs p q b 0 a) + 1) * (b - 1) := by
      have : voP 0 b (xFs p q b 0 a) [b - 1] = (0 * b ^ (xFs p q b 0 a).length + nfI b 0 (xFs p q b 0 a)) * (b ^ 1 - 1) + (0 * b + (b - 1)) := rfl
      rw [this, Nat.zero_mul, Nat.zero_mul, Nat.zero_add, Nat.zero_add, Nat.pow_one, Nat.add_mul, Nat.one_mul]
    have eP0 : voP 0 b (xFs p q b 0 a) [0] = nfI b 0 (xFs p q b 0 a) * (b - 1) := by
      have : voP 0 b (xFs p q b 0 a) [0] = (0 * b ^ (xFs p q b 0 a).length + nfI b 0 (xFs p q b 0 a)) * (b ^ 1 - 1) + (0 * b + 0) := rfl
      rw [this, Nat.zero_mul, Nat.zero_mul, Nat.zero_add, Nat.add_zero, Nat.pow_one]
    rw [(vo_fr _ _).1, (vo_fr _ _).2, (vo_fr _ _).1, (vo_fr _ _).2, eM, eM, eP1, eP0]
    generalize nfI b 0 (xFs p q b 0 a) = n at *
    have sc1 := fr_scale (p := ((n + 1 : Nat) : Int)) (q := b ^ a) (k := b - 1) (by omega) hbap
    have sc0 := fr_scale (p := (n : Int)) (q := b ^ a) (k := b - 1) (by omega) hbap
    rw [← Int.natCast_mul] at sc1 sc0
    rw [sc1.1, sc1.2, sc0.1, sc0.2]
    have cr := fr_cross (p := (n : Int)) (q := b ^ a) hbap
    have dp := frD_pos (p := (n : Int)) (q := b ^ a) hbap
    have dl := frD_le (p := (n : Int)) (q := b ^ a)
    have szx : Sz 600 (frN (n : Int) (b ^ a)) := by
      unfold frN
      exact Sz.div (sz_nat (by omega)) (by omega) (by have : 0 < Int.gcd (n : Int) ((b ^ a : Nat) : Int) := Nat.gcd_pos_of_pos_right _ hbap
                                                      omega)
    have szy : Sz 600 ((frD (n : Int) (b ^ a) : Nat) : Int) := sz_nat (by omega)
    have szp : Sz 600 ((b ^ a : Nat) : Int) := sz_nat hba8
    generalize frN (n : Int) (b ^ a) = X at *
    generalize frD (n : Int) (b ^ a) = Y at *
    have hYP : Y * b ^ a < 2 ^ 8900 := by
      have : Y * b ^ a < 2 ^ 600 * 2 ^ 600 := Nat.mul_lt_mul_of_lt_of_le (by omega) (Nat.le_of_lt hba8) (by omega)
      exact Nat.lt_of_lt_of_le this (by rw [← Nat.pow_add]; exact Nat.pow_le_pow_right (by decide) (by decide))
    (try simp only [e_var, e_rd, e_sr, e_cst, e_op1, e_op2, e_op3, e_chain, e_band, e_bor, e_ife, e_anil, e_acons, e_lst, e_tup, e_bi, e_call, e_calls, e_sget, ls_l, gV_sh, gR_sh, gR_br, gR_ow, gS_sh, gS_br, gO_ow, gF_ow, gF_sh, sm_some, w_asg1, w_asg, w_asgO, w_par, w_ret, w_drop, w_aug, w_mut, w_seti, w_augi, w_pop, w_frz, w_sset, w_ife, w_skip, w_brk, w_cont, w_seq, kq_ret, kq_bk, kq_ct, kl_bk, kl_ret, br_b, decide_eq_true_eq, decide_eq_false_iff_not, Bool.not_eq_true', Bool.not_eq_false', reduceCtorEq, true_implies, false_implies, forall_const, not_true_eq_false, not_false_eq_true, and_true, true_and, implies_true, sm_add, sm_addI, sm_addL, sm_addT, sm_cat, sm_sub, sm_mul, sm_div, sm_mod, sm_pow, sm_neg, sm_lt, sm_le, sm_gt, sm_ge, sm_eqI, sm_neI, sm_eqB, sm_neB, sm_isN, sm_isNotN, sm_truI, sm_truB, sm_truN, sm_truL, sm_truT, sm_not, sm_ixL, sm_ixT, sm_at0, sm_at1, sm_at2, sm_lenL, sm_lenT, sm_abs, sm_int, sm_intB, sm_max2, sm_min2, sm_listL, sm_listT, sm_tupL, sm_tupT, sm_seqL, sm_seqT, sm_lsL, sm_rng1, sm_rng2, sm_rng3, sm_app, sm_rep1, sm_set1, sm_setN, sm_setC, sm_mixN, sm_mixC, sm_isi, sm_isi2, sm_item0, sm_item1, sm_iset0, sm_iset1, wipe_n, wipe_c, List.set_cons_zero, List.set_cons_succ, List.getElem?_cons_zero, List.getElem?_cons_succ, List.length_cons, List.length_nil, Nat.zero_le, Bool.false_eq_true, if_true, if_false, Bool.not_true, Bool.not_false, Bool.not_not])
    refine ⟨by decide, sm__law_add (p := X * ((b ^ a : Nat) : Int) + 1 * (Y : Int)) (q := Y * b ^ a) (mul_ok szx szp) (mul_ok (Sz.of (i := 1)) szy) (mul_ok szy szp) rfl (by rw [Int.natCast_mul]) (Nat.mul_pos dp hbap) hYP ?_⟩
    have fe := fr_eq (p := ((n + 1 : Nat) : Int)) (q := b ^ a) (r := X * ((b ^ a : Nat) : Int) + 1 * (Y : Int)) (s := Y * b ^ a) hbap (Nat.mul_pos dp hbap) (by
      rw [Int.natCast_mul, Int.natCast_add, cr]
      grind)
    rw [fe.1, fe.2]
    refine sm_neS rfl ?_
    (try simp only [e_var, e_rd, e_sr, e_cst, e_op1, e_op2, e_op3, e_chain, e_band, e_bor, e_ife, e_anil, e_acons, e_lst, e_tup, e_bi, e_call, e_calls, e_sget, ls_l, gV_sh, gR_sh, gR_br, gR_ow, gS_sh, gS_br, gO_ow, gF_ow, gF_sh, sm_some, w_asg1, w_asg, w_asgO, w_par, w_ret, w_drop, w_aug, w_mut, w_seti, w_augi, w_pop, w_frz, w_sset, w_ife, w_skip, w_brk, w_cont, w_seq, kq_ret, kq_bk, kq_ct, kl_bk, kl_ret, br_b, decide_eq_true_eq, decide_eq_false_iff_not, Bool.not_eq_true', Bool.not_eq_false', reduceCtorEq, true_implies, false_implies, forall_const, not_true_eq_false, not_false_eq_true, and_true, true_and, implies_true, sm_add, sm_addI, sm_addL, sm_addT, sm_cat, sm_sub, sm_mul, sm_div, sm_mod, sm_pow, sm_neg, sm_lt, sm_le, sm_gt, sm_ge, sm_eqI, sm_neI, sm_eqB, sm_neB, sm_isN, sm_isNotN, sm_truI, sm_truB, sm_truN, sm_truL, sm_truT, sm_not, sm_ixL, sm_ixT, sm_at0, sm_at1, sm_at2, sm_lenL, sm_lenT, sm_abs, sm_int, sm_intB, sm_max2, sm_min2, sm_listL, sm_listT, sm_tupL, sm_tupT, sm_seqL, sm_seqT, sm_lsL, sm_rng1, sm_rng2, sm_rng3, sm_app, sm_rep1, sm_set1, sm_setN, sm_setC, sm_mixN, sm_mixC, sm_isi, sm_isi2, sm_item0, sm_item1, sm_iset0, sm_iset1, wipe_n, wipe_c, List.set_cons_zero, List.set_cons_succ, List.getElem?_cons_zero, List.getElem?_cons_succ, List.length_cons, List.length_nil, Nat.zero_le, Bool.false_eq_true, if_true, if_false, Bool.not_true, Bool.not_false, Bool.not_not])
    rw [kq_nx]
    -- without a common divisor
    refine W.same ?_ ?_
    · (try simp only [e_var, e_rd, e_sr, e_cst, e_op1, e_op2, e_op3, e_chain, e_band, e_bor, e_ife, e_anil, e_acons, e_lst, e_tup, e_bi, e_call, e_calls, e_sget, ls_l, gV_sh, gR_sh, gR_br, gR_ow, gS_sh, gS_br, gO_ow, gF_ow, gF_sh, sm_some, w_asg1, w_asg, w_asgO, w_par, w_ret, w_drop, w_aug, w_mut, w_seti, w_augi, w_pop, w_frz, w_sset, w_ife, w_skip, w_brk, w_cont, w_seq, kq_ret, kq_bk, kq_ct, kl_bk, kl_ret, br_b, decide_eq_true_eq, decide_eq_false_iff_not, Bool.not_eq_true', Bool.not_eq_false', reduceCtorEq, true_implies, false_implies, forall_const, not_true_eq_false, not_false_eq_true, and_true, true_and, implies_true, sm_add, sm_addI, sm_addL, sm_addT, sm_cat, sm_sub, sm_mul, sm_div, sm_mod, sm_pow, sm_neg, sm_lt, sm_le, sm_gt, sm_ge, sm_eqI, sm_neI, sm_eqB, sm_neB, sm_isN, sm_isNotN, sm_truI, sm_truB, sm_truN, sm_truL, sm_truT, sm_not, sm_ixL, sm_ixT, sm_at0, sm_at1, sm_at2, sm_lenL, sm_lenT, sm_abs, sm_int, sm_intB, sm_max2, sm_min2, sm_listL, sm_listT, sm_tupL, sm_tupT, sm_seqL, sm_seqT, sm_lsL, sm_rng1, sm_rng2, sm_rng3, sm_app, sm_rep1, sm_set1, sm_setN, sm_setC, sm_mixN, sm_mixC, sm_isi, sm_isi2, sm_item0, sm_item1, sm_iset0, sm_iset1, wipe_n, wipe_c, List.set_cons_zero, List.set_cons_succ, List.getElem?_cons_zero, List.getElem?_cons_succ, List.length_cons, List.length_nil, Nat.zero_le, Bool.false_eq_true, if_true, if_false, Bool.not_true, Bool.not_false, Bool.not_not])
      refine sm__law_gcd rfl rfl ?_
      (try simp only [e_var, e_rd, e_sr, e_cst, e_op1, e_op2, e_op3, e_chain, e_band, e_bor, e_ife, e_anil, e_acons, e_lst, e_tup, e_bi, e_call, e_calls, e_sget, ls_l, gV_sh, gR_sh, gR_br, gR_ow, gS_sh, gS_br, gO_ow, gF_ow, gF_sh, sm_some, w_asg1, w_asg, w_asgO, w_par, w_ret, w_drop, w_aug, w_mut, w_seti, w_augi, w_pop, w_frz, w_sset, w_ife, w_skip, w_brk, w_cont, w_seq, kq_ret, kq_bk, kq_ct, kl_bk, kl_ret, br_b, decide_eq_true_eq, decide_eq_false_iff_not, Bool.not_eq_true', Bool.not_eq_false', reduceCtorEq, true_implies, false_implies, forall_const, not_true_eq_false, not_false_eq_true, and_true, true_and, implies_true, sm_add, sm_addI, sm_addL, sm_addT, sm_cat, sm_sub, sm_mul, sm_div, sm_mod, sm_pow, sm_neg, sm_lt, sm_le, sm_gt, sm_ge, sm_eqI, sm_neI, sm_eqB, sm_neB, sm_isN, sm_isNotN, sm_truI, sm_truB, sm_truN, sm_truL, sm_truT, sm_not, sm_ixL, sm_ixT, sm_at0, sm_at1, sm_at2, sm_lenL, sm_lenT, sm_abs, sm_int, sm_intB, sm_max2, sm_min2, sm_listL, sm_listT, sm_tupL, sm_tupT, sm_seqL, sm_seqT, sm_lsL, sm_rng1, sm_rng2, sm_rng3, sm_app, sm_rep1, sm_set1, sm_setN, sm_setC, sm_mixN, sm_mixC, sm_isi, sm_isi2, sm_item0, sm_item1, sm_iset0, sm_iset1, wipe_n, wipe_c, List.set_cons_zero, List.set_cons_succ, List.getElem?_cons_zero, List.getElem?_cons_succ, List.length_cons, List.length_nil, Nat.zero_le, Bool.false_eq_true, if_true, if_false, Bool.not_true, Bool.not_false, Bool.not_not])
      intro c1
      have hcop : Nat.Coprime h b := by unfold Nat.Coprime; omega
      refine (sm_neNT (l := xFs p q b 0 a) (m := [])).mpr ?_
      obtain ⟨d0, od0⟩ := IsOrd.exists (lam_pos hh) (lam_one hh hcop.symm)
      have E3 := E
      rw [ep, eq] at E3
      obtain ⟨ha0, hkd⟩ := exp_ord hg hc hcop (by omega) od0 E3
      (try simp only [e_var, e_rd, e_sr, e_cst, e_op1, e_op2, e_op3, e_chain, e_band, e_bor, e_ife, e_anil, e_acons, e_lst, e_tup, e_bi, e_call, e_calls, e_sget, ls_l, gV_sh, gR_sh, gR_br, gR_ow, gS_sh, gS_br, gO_ow, gF_ow, gF_sh, sm_some, w_asg1, w_asg, w_asgO, w_par, w_ret, w_drop, w_aug, w_mut, w_seti, w_augi, w_pop, w_frz, w_sset, w_ife, w_skip, w_brk, w_cont, w_seq, kq_ret, kq_bk, kq_ct, kl_bk, kl_ret, br_b, decide_eq_true_eq, decide_eq_false_iff_not, Bool.not_eq_true', Bool.not_eq_false', reduceCtorEq, true_implies, false_implies, forall_const, not_true_eq_false, not_false_eq_true, and_true, true_and, implies_true, sm_add, sm_addI, sm_addL, sm_addT, sm_cat, sm_sub, sm_mul, sm_div, sm_mod, sm_pow, sm_neg, sm_lt, sm_le, sm_gt, sm_ge, sm_eqI, sm_neI, sm_eqB, sm_neB, sm_isN, sm_isNotN, sm_truI, sm_truB, sm_truN, sm_truL, sm_truT, sm_not, sm_ixL, sm_ixT, sm_at0, sm_at1, sm_at2, sm_lenL, sm_lenT, sm_abs, sm_int, sm_intB, sm_max2, sm_min2, sm_listL, sm_listT, sm_tupL, sm_tupT, sm_seqL, sm_seqT, sm_lsL, sm_rng1, sm_rng2, sm_rng3, sm_app, sm_rep1, sm_set1, sm_setN, sm_setC, sm_mixN, sm_mixC, sm_isi, sm_isi2, sm_item0, sm_item1, sm_iset0, sm_iset1, wipe_n, wipe_c, List.set_cons_zero, List.set_cons_succ, List.getElem?_cons_zero, List.getElem?_cons_succ, List.length_cons, List.length_nil, Nat.zero_le, Bool.false_eq_true, if_true, if_false, Bool.not_true, Bool.not_false, Bool.not_not])
      refine ⟨fun c2 => absurd (by rw [ha0]; rfl) c2, fun c2 => sm_order_of rfl rfl hh (by omega) hcop.symm fun d od => ?_⟩
      (try simp only [e_var, e_rd, e_sr, e_cst, e_op1, e_op2, e_op3, e_chain, e_band, e_bor, e_ife, e_anil, e_acons, e_lst, e_tup, e_bi, e_call, e_calls, e_sget, ls_l, gV_sh, gR_sh, gR_br, gR_ow, gS_sh, gS_br, gO_ow, gF_ow, gF_sh, sm_some, w_asg1, w_asg, w_asgO, w_par, w_ret, w_drop, w_aug, w_mut, w_seti, w_augi, w_pop, w_frz, w_sset, w_ife, w_skip, w_brk, w_cont, w_seq, kq_ret, kq_bk, kq_ct, kl_bk, kl_ret, br_b, decide_eq_true_eq, decide_eq_false_iff_not, Bool.not_eq_true', Bool.not_eq_false', reduceCtorEq, true_implies, false_implies, forall_const, not_true_eq_false, not_false_eq_true, and_true, true_and, implies_true, sm_add, sm_addI, sm_addL, sm_addT, sm_cat, sm_sub, sm_mul, sm_div, sm_mod, sm_pow, sm_neg, sm_lt, sm_le, sm_gt, sm_ge, sm_eqI, sm_neI, sm_eqB, sm_neB, sm_isN, sm_isNotN, sm_truI, sm_truB, sm_truN, sm_truL, sm_truT, sm_not, sm_ixL, sm_ixT, sm_at0, sm_at1, sm_at2, sm_lenL, sm_lenT, sm_abs, sm_int, sm_intB, sm_max2, sm_min2, sm_listL, sm_listT, sm_tupL, sm_tupT, sm_seqL, sm_seqT, sm_lsL, sm_rng1, sm_rng2, sm_rng3, sm_app, sm_rep1, sm_set1, sm_setN, sm_setC, sm_mixN, sm_mixC, sm_isi, sm_isi2, sm_item0, sm_item1, sm_iset0, sm_iset1, wipe_n, wipe_c, List.set_cons_zero, List.set_cons_succ, List.getElem?_cons_zero, List.getElem?_cons_succ, List.length_cons, List.length_nil, Nat.zero_le, Bool.false_eq_true, if_true, if_false, Bool.not_true, Bool.not_false, Bool.not_not, natsD_len, xFs_len])
      intro c3
      exact c3 (by rw [od.uniq od0, hkd, ha0, Nat.sub_zero])
    · have fin : ∀ s21 s22 : Sl, ∃ (ls : List Sl) (T' : D), ([.br (.list S), .st, .sh (.int t), .sh (.int p), .sh (.list (natsD (xFs p q b 0 M))), .sh (.tuple [.int (0 : Nat), .tuple (natsD (xFs p q (b * b) 0 a')), .tuple (natsD (xFs p q (b * b) a' (k' - a')))]), .sh (.list (natsD (xFs p q (b * b) 0 M'))), .sh (.tuple [.int (p * b / q : Nat), .tuple (natsD (xFs (p * b) q b 0 a2)), .tuple (natsD (xFs (p * b) q b a2 (k2' - a2)))]), .sh (.list (natsD (xFs (p * b) q b 0 (a2 + 40 * (k2' - a2))))), .sh (.bool (decide (xFs p q b a (k - a) = [0]))), .sh (.int (b ^ a : Nat)), s11, .sh (.int b), .sh (.int q), .sh (.int (0 : Nat)), .sh (.tuple (natsD (xFs p q b 0 a))), .sh (.tuple (natsD (xFs p q b a (k - a)))), .sh (.int l), .sh (.int h), .sh (.tuple [.int k1, .int d1]), .sh (.tuple [.int k2, .int d2]), s21, s22] : Z.Env) = .br (.list S) :: .st :: ls ∧ ls.length = 21 ∧ some T = some T' ∧ GoodA T' := fun s21 s22 => ⟨_, _, rfl, rfl, rfl, hT⟩
      (try simp only [e_var, e_rd, e_sr, e_cst, e_op1, e_op2, e_op3, e_chain, e_band, e_bor, e_ife, e_anil, e_acons, e_lst, e_tup, e_bi, e_call, e_calls, e_sget, ls_l, gV_sh, gR_sh, gR_br, gR_ow, gS_sh, gS_br, gO_ow, gF_ow, gF_sh, sm_some, w_asg1, w_asg, w_asgO, w_par, w_ret, w_drop, w_aug, w_mut, w_seti, w_augi, w_pop, w_frz, w_sset, w_ife, w_skip, w_brk, w_cont, w_seq, kq_ret, kq_bk, kq_ct, kl_bk, kl_ret, br_b, decide_eq_true_eq, decide_eq_false_iff_not, Bool.not_eq_true', Bool.not_eq_false', reduceCtorEq, true_implies, false_implies, forall_const, not_true_eq_false, not_false_eq_true, and_true, true_and, implies_true, sm_add, sm_addI, sm_addL, sm_addT, sm_cat, sm_sub, sm_mul, sm_div, sm_mod, sm_pow, sm_neg, sm_lt, sm_le, sm_gt, sm_ge, sm_eqI, sm_neI, sm_eqB, sm_neB, sm_isN, sm_isNotN, sm_truI, sm_truB, sm_truN, sm_truL, sm_truT, sm_not, sm_ixL, sm_ixT, sm_at0, sm_at1, sm_at2, sm_lenL, sm_lenT, sm_abs, sm_int, sm_intB, sm_max2, sm_min2, sm_listL, sm_listT, sm_tupL, sm_tupT, sm_seqL, sm_seqT, sm_lsL, sm_rng1, sm_rng2, sm_rng3, sm_app, sm_rep1, sm_set1, sm_setN, sm_setC, sm_mixN, sm_mixC, sm_isi, sm_isi2, sm_item0, sm_item1, sm_iset0, sm_iset1, wipe_n, wipe_c, List.set_cons_zero, List.set_cons_succ, List.getElem?_cons_zero, List.getElem?_cons_succ, List.length_cons, List.length_nil, Nat.zero_le, Bool.false_eq_true, if_true, if_false, Bool.not_true, Bool.not_false, Bool.not_not])
      refine (sm_eqNT (l := xFs p q b 0 a) (m := [])).mpr ?_
      (try simp only [e_var, e_rd, e_sr, e_cst, e_op1, e_op2, e_op3, e_chain, e_band, e_bor, e_ife, e_anil, e_acons, e_lst, e_tup, e_bi, e_call, e_calls, e_sget, ls_l, gV_sh, gR_sh, gR_br, gR_ow, gS_sh, gS_br, gO_ow, gF_ow, gF_sh, sm_some, w_asg1, w_asg, w_asgO, w_par, w_ret, w_drop, w_aug, w_mut, w_seti, w_augi, w_pop, w_frz, w_sset, w_ife, w_skip, w_brk, w_cont, w_seq, kq_ret, kq_bk, kq_ct, kl_bk, kl_ret, br_b, decide_eq_true_eq, decide_eq_false_iff_not, Bool.not_eq_true', Bool.not_eq_false', reduceCtorEq, true_implies, false_implies, forall_const, not_true_eq_false, not_false_eq_true, and_true, true_and, implies_true, sm_add, sm_addI, sm_addL, sm_addT, sm_cat, sm_sub, sm_mul, sm_div, sm_mod, sm_pow, sm_neg, sm_lt, sm_le, sm_gt, sm_ge, sm_eqI, sm_neI, sm_eqB, sm_neB, sm_isN, sm_isNotN, sm_truI, sm_truB, sm_truN, sm_truL, sm_truT, sm_not, sm_ixL, sm_ixT, sm_at0, sm_at1, sm_at2, sm_lenL, sm_lenT, sm_abs, sm_int, sm_intB, sm_max2, sm_min2, sm_listL, sm_listT, sm_tupL, sm_tupT, sm_seqL, sm_seqT, sm_lsL, sm_rng1, sm_rng2, sm_rng3, sm_app, sm_rep1, sm_set1, sm_setN, sm_setC, sm_mixN, sm_mixC, sm_isi, sm_isi2, sm_item0, sm_item1, sm_iset0, sm_iset1, wipe_n, wipe_c, List.set_cons_zero, List.set_cons_succ, List.getElem?_cons_zero, List.getElem?_cons_succ, List.length_cons, List.length_nil, Nat.zero_le, Bool.false_eq_true, if_true, if_false, Bool.not_true, Bool.not_false, Bool.not_not])
      refine ⟨fun c1 => ⟨fun c2 => ?_, fun c2 => fin _ _⟩, fun c1 => fin _ _⟩
      have ha0 : a = 0 := by
        have := congrArg List.length c1
        rw [xFs_len] at this
        exact this
      subst ha0
      have hr0 : xR p q b 0 ≠ 0 := fun z => c2 ((ends_iff (by omega) hb.1 E).mpr z)
      have hp1 : 1 ≤ p := by
        apply Nat.pos_of_ne_zero
        rintro rfl
        exact hr0 (by unfold xR; simp)
      obtain ⟨Ec, hFc⟩ := exp_compl (by omega) (by omega) (by omega) E hr0
      refine sm_expansion (p := q - p) (show (q : Int) - (p : Int) = ((q - p : Nat) : Int) by omega) rfl rfl (by omega) (by omega) (by omega) (by omega) fun a3 k3 E4 => ?_
      obtain ⟨rfl, rfl⟩ := E4.uniq Ec
      rw [show (q - p) / q = 0 from Nat.div_eq_of_lt (by omega)]
      rw [kq_nx]
      (try simp only [e_var, e_rd, e_sr, e_cst, e_op1, e_op2, e_op3, e_chain, e_band, e_bor, e_ife, e_anil, e_acons, e_lst, e_tup, e_bi, e_call, e_calls, e_sget, ls_l, gV_sh, gR_sh, gR_br, gR_ow, gS_sh, gS_br, gO_ow, gF_ow, gF_sh, sm_some, w_asg1, w_asg, w_asgO, w_par, w_ret, w_drop, w_aug, w_mut, w_seti, w_augi, w_pop, w_frz, w_sset, w_ife, w_skip, w_brk, w_cont, w_seq, kq_ret, kq_bk, kq_ct, kl_bk, kl_ret, br_b, decide_eq_true_eq, decide_eq_false_iff_not, Bool.not_eq_true', Bool.not_eq_false', reduceCtorEq, true_implies, false_implies, forall_const, not_true_eq_false, not_false_eq_true, and_true, true_and, implies_true, sm_add, sm_addI, sm_addL, sm_addT, sm_cat, sm_sub, sm_mul, sm_div, sm_mod, sm_pow, sm_neg, sm_lt, sm_le, sm_gt, sm_ge, sm_eqI, sm_neI, sm_eqB, sm_neB, sm_isN, sm_isNotN, sm_truI, sm_truB, sm_truN, sm_truL, sm_truT, sm_not, sm_ixL, sm_ixT, sm_at0, sm_at1, sm_at2, sm_lenL, sm_lenT, sm_abs, sm_int, sm_intB, sm_max2, sm_min2, sm_listL, sm_listT, sm_tupL, sm_tupT, sm_seqL, sm_seqT, sm_lsL, sm_rng1, sm_rng2, sm_rng3, sm_app, sm_rep1, sm_set1, sm_setN, sm_setC, sm_mixN, sm_mixC, sm_isi, sm_isi2, sm_item0, sm_item1, sm_iset0, sm_iset1, wipe_n, wipe_c, List.set_cons_zero, List.set_cons_succ, List.getElem?_cons_zero, List.getElem?_cons_succ, List.length_cons, List.length_nil, Nat.zero_le, Bool.false_eq_true, if_true, if_false, Bool.not_true, Bool.not_false, Bool.not_not])
      refine e_comp_of (fun _ => true) (fun d => match d with | .int i => .int ((b : Int) - 1 - i) | _ => d) ?_
      (try simp only [e_var, e_rd, e_sr, e_cst, e_op1, e_op2, e_op3, e_chain, e_band, e_bor, e_ife, e_anil, e_acons, e_lst, e_tup, e_bi, e_call, e_calls, e_sget, ls_l, gV_sh, gR_sh, gR_br, gR_ow, gS_sh, gS_br, gO_ow, gF_ow, gF_sh, sm_some, w_asg1, w_asg, w_asgO, w_par, w_ret, w_drop, w_aug, w_mut, w_seti, w_augi, w_pop, w_frz, w_sset, w_ife, w_skip, w_brk, w_cont, w_seq, kq_ret, kq_bk, kq_ct, kl_bk, kl_ret, br_b, decide_eq_true_eq, decide_eq_false_iff_not, Bool.not_eq_true', Bool.not_eq_false', reduceCtorEq, true_implies, false_implies, forall_const, not_true_eq_false, not_false_eq_true, and_true, true_and, implies_true, sm_add, sm_addI, sm_addL, sm_addT, sm_cat, sm_sub, sm_mul, sm_div, sm_mod, sm_pow, sm_neg, sm_lt, sm_le, sm_gt, sm_ge, sm_eqI, sm_neI, sm_eqB, sm_neB, sm_isN, sm_isNotN, sm_truI, sm_truB, sm_truN, sm_truL, sm_truT, sm_not, sm_ixL, sm_ixT, sm_at0, sm_at1, sm_at2, sm_lenL, sm_lenT, sm_abs, sm_int, sm_intB, sm_max2, sm_min2, sm_listL, sm_listT, sm_tupL, sm_tupT, sm_seqL, sm_seqT, sm_lsL, sm_rng1, sm_rng2, sm_rng3, sm_app, sm_rep1, sm_set1, sm_setN, sm_setC, sm_mixN, sm_mixC, sm_isi, sm_isi2, sm_item0, sm_item1, sm_iset0, sm_iset1, wipe_n, wipe_c, List.set_cons_zero, List.set_cons_succ, List.getElem?_cons_zero, List.getElem?_cons_succ, List.length_cons, List.length_nil, Nat.zero_le, Bool.false_eq_true, if_true, if_false, Bool.not_true, Bool.not_false, Bool.not_not])
      refine ⟨by rw [natsD_len, xFs_len]; omega, fun t' ht' => ?_, ?_⟩
      · obtain ⟨n', _, rfl⟩ := List.mem_map.mp (show t' ∈ (xFs p q b 0 (k3 - 0)).map fun n : Nat => PyData.int (n : Nat) from ht')
        (try simp only [e_var, e_rd, e_sr, e_cst, e_op1, e_op2, e_op3, e_chain, e_band, e_bor, e_ife, e_anil, e_acons, e_lst, e_tup, e_bi, e_call, e_calls, e_sget, ls_l, gV_sh, gR_sh, gR_br, gR_ow, gS_sh, gS_br, gO_ow, gF_ow, gF_sh, sm_some, w_asg1, w_asg, w_asgO, w_par, w_ret, w_drop, w_aug, w_mut, w_seti, w_augi, w_pop, w_frz, w_sset, w_ife, w_skip, w_brk, w_cont, w_seq, kq_ret, kq_bk, kq_ct, kl_bk, kl_ret, br_b, decide_eq_true_eq, decide_eq_false_iff_not, Bool.not_eq_true', Bool.not_eq_false', reduceCtorEq, true_implies, false_implies, forall_const, not_true_eq_false, not_false_eq_true, and_true, true_and, implies_true, sm_add, sm_addI, sm_addL, sm_addT, sm_cat, sm_sub, sm_mul, sm_div, sm_mod, sm_pow, sm_neg, sm_lt, sm_le, sm_gt, sm_ge, sm_eqI, sm_neI, sm_eqB, sm_neB, sm_isN, sm_isNotN, sm_truI, sm_truB, sm_truN, sm_truL, sm_truT, sm_not, sm_ixL, sm_ixT, sm_at0, sm_at1, sm_at2, sm_lenL, sm_lenT, sm_abs, sm_int, sm_intB, sm_max2, sm_min2, sm_listL, sm_listT, sm_tupL, sm_tupT, sm_seqL, sm_seqT, sm_lsL, sm_rng1, sm_rng2, sm_rng3, sm_app, sm_rep1, sm_set1, sm_setN, sm_setC, sm_mixN, sm_mixC, sm_isi, sm_isi2, sm_item0, sm_item1, sm_iset0, sm_iset1, wipe_n, wipe_c, List.set_cons_zero, List.set_cons_succ, List.getElem?_cons_zero, List.getElem?_cons_succ, List.length_cons, List.length_nil, Nat.zero_le, Bool.false_eq_true, if_true, if_false, Bool.not_true, Bool.not_false, Bool.not_not])
      rw [show (natsD (xFs p q b 0 (k3 - 0))).filter (fun _ => true) = natsD (xFs p q b 0 (k3 - 0)) from List.filter_eq_self.mpr fun _ _ => rfl]
      have eF : (natsD (xFs p q b 0 (k3 - 0))).map (fun d => match d with | .int i => PyData.int ((b : Int) - 1 - i) | _ => d) = natsD (xFs (q - p) q b 0 (k3 - 0)) := by
        unfold natsD xFs
        rw [List.map_map, List.map_map, List.map_map]
        apply List.map_congr_left
        intro i hi
        rw [List.mem_range'_1] at hi
        have h1 := hFc i (by omega)
        have h2 := xF_lt (p := p) (q := q) (b := b) (i := i) (by omega) (by omega)
        simp only [Function.comp]
        rw [h1]
        congr 1
        omega
      rw [eF]
      (try simp only [e_var, e_rd, e_sr, e_cst, e_op1, e_op2, e_op3, e_chain, e_band, e_bor, e_ife, e_anil, e_acons, e_lst, e_tup, e_bi, e_call, e_calls, e_sget, ls_l, gV_sh, gR_sh, gR_br, gR_ow, gS_sh, gS_br, gO_ow, gF_ow, gF_sh, sm_some, w_asg1, w_asg, w_asgO, w_par, w_ret, w_drop, w_aug, w_mut, w_seti, w_augi, w_pop, w_frz, w_sset, w_ife, w_skip, w_brk, w_cont, w_seq, kq_ret, kq_bk, kq_ct, kl_bk, kl_ret, br_b, decide_eq_true_eq, decide_eq_false_iff_not, Bool.not_eq_true', Bool.not_eq_false', reduceCtorEq, true_implies, false_implies, forall_const, not_true_eq_false, not_false_eq_true, and_true, true_and, implies_true, sm_add, sm_addI, sm_addL, sm_addT, sm_cat, sm_sub, sm_mul, sm_div, sm_mod, sm_pow, sm_neg, sm_lt, sm_le, sm_gt, sm_ge, sm_eqI, sm_neI, sm_eqB, sm_neB, sm_isN, sm_isNotN, sm_truI, sm_truB, sm_truN, sm_truL, sm_truT, sm_not, sm_ixL, sm_ixT, sm_at0, sm_at1, sm_at2, sm_lenL, sm_lenT, sm_abs, sm_int, sm_intB, sm_max2, sm_min2, sm_listL, sm_listT, sm_tupL, sm_tupT, sm_seqL, sm_seqT, sm_lsL, sm_rng1, sm_rng2, sm_rng3, sm_app, sm_rep1, sm_set1, sm_setN, sm_setC, sm_mixN, sm_mixC, sm_isi, sm_isi2, sm_item0, sm_item1, sm_iset0, sm_iset1, wipe_n, wipe_c, List.set_cons_zero, List.set_cons_succ, List.getElem?_cons_zero, List.getElem?_cons_succ, List.length_cons, List.length_nil, Nat.zero_le, Bool.false_eq_true, if_true, if_false, Bool.not_true, Bool.not_false, Bool.not_not])
      refine ⟨by decide, sm_neS (Shp.ok (k := 2) (Shp.tuple fun x hx => ?_)) ?_⟩
      · simp only [List.mem_cons, List.not_mem_nil, or_false] at hx
        rcases hx with rfl | rfl | rfl
        · exact Shp.int
        · exact Shp.tuple fun x hx => by cases hx
        · exact Shp.tuple fun x hx => by
            obtain ⟨n', _, rfl⟩ := List.mem_map.mp hx
            exact Shp.int
      (try simp only [e_var, e_rd, e_sr, e_cst, e_op1, e_op2, e_op3, e_chain, e_band, e_bor, e_ife, e_anil, e_acons, e_lst, e_tup, e_bi, e_call, e_calls, e_sget, ls_l, gV_sh, gR_sh, gR_br, gR_ow, gS_sh, gS_br, gO_ow, gF_ow, gF_sh, sm_some, w_asg1, w_asg, w_asgO, w_par, w_ret, w_drop, w_aug, w_mut, w_seti, w_augi, w_pop, w_frz, w_sset, w_ife, w_skip, w_brk, w_cont, w_seq, kq_ret, kq_bk, kq_ct, kl_bk, kl_ret, br_b, decide_eq_true_eq, decide_eq_false_iff_not, Bool.not_eq_true', Bool.not_eq_false', reduceCtorEq, true_implies, false_implies, forall_const, not_true_eq_false, not_false_eq_true, and_true, true_and, implies_true, sm_add, sm_addI, sm_addL, sm_addT, sm_cat, sm_sub, sm_mul, sm_div, sm_mod, sm_pow, sm_neg, sm_lt, sm_le, sm_gt, sm_ge, sm_eqI, sm_neI, sm_eqB, sm_neB, sm_isN, sm_isNotN, sm_truI, sm_truB, sm_truN, sm_truL, sm_truT, sm_not, sm_ixL, sm_ixT, sm_at0, sm_at1, sm_at2, sm_lenL, sm_lenT, sm_abs, sm_int, sm_intB, sm_max2, sm_min2, sm_listL, sm_listT, sm_tupL, sm_tupT, sm_seqL, sm_seqT, sm_lsL, sm_rng1, sm_rng2, sm_rng3, sm_app, sm_rep1, sm_set1, sm_setN, sm_setC, sm_mixN, sm_mixC, sm_isi, sm_isi2, sm_item0, sm_item1, sm_iset0, sm_iset1, wipe_n, wipe_c, List.set_cons_zero, List.set_cons_succ, List.getElem?_cons_zero, List.getElem?_cons_succ, List.length_cons, List.length_nil, Nat.zero_le, Bool.false_eq_true, if_true, if_false, Bool.not_true, Bool.not_false, Bool.not_not])
      exact fin _ _
theorem ev_law : ∀ args r, fLaw args = some r → ∃ n st', evS n zl (mkEnv 23 args) none = some (.ret r st') := ev_law_of fun ns h => w_law ⟨ns, h, rfl⟩
end K61
namespace K61
open PySem PySem.Spec PyProof.Rows L2 Z
section
variable {P : Program} {w : World} {K : PySem.W.Frag} {mg : Str → Option Value} {base : Heap} {f : Addr} {fd : FuncData}
theorem fe_power {f : Addr} {fd : FuncData} (Fn : Fun K "power" "power" s_power f fd) (g : mg "power" = some (.ref f)) (b : Binds K fd ["base", "n"] [])  : FeOk P w K mg base 1 ⟨"power", .pl fs_power⟩ :=
  ⟨f, fd, _, fn_pl Fn sc_power ⟨fe_nil, bl_nil, fun h => by cases h⟩ d_power ln_power ev_power, g, Fn.kp, b⟩
theorem fe_prime_powers {f : Addr} {fd : FuncData} (Fn : Fun K "prime_powers" "prime_powers" s_prime_powers f fd) (g : mg "prime_powers" = some (.ref f)) (b : Binds K fd ["n"] [])  : FeOk P w K mg base 1 ⟨"prime_powers", .pl fs_prime_powers⟩ :=
  ⟨f, fd, _, fn_pl Fn sc_prime_powers ⟨fe_nil, bl_nil, fun h => by cases h⟩ d_prime_powers ln_prime_powers ev_prime_powers, g, Fn.kp, b⟩
theorem fe_power_by {f : Addr} {fd : FuncData} (Fn : Fun K "power_by" "power_by" s_power_by f fd) (g : mg "power_by" = some (.ref f)) (b : Binds K fd ["a", "n", "m"] [])  : FeOk P w K mg base 1 ⟨"power_by", .pl fs_power_by⟩ :=
  ⟨f, fd, _, fn_pl Fn sc_power_by ⟨fe_nil, bl_nil, fun h => by cases h⟩ d_power_by ln_power_by ev_power_by, g, Fn.kp, b⟩
theorem fe_greatest_order {f : Addr} {fd : FuncData} (Fn : Fun K "greatest_order" "greatest_order" s_greatest_order f fd) (g : mg "greatest_order" = some (.ref f)) (b : Binds K fd ["n"] []) (h_prime_powers : FeOk P w K mg base 1 ⟨"prime_powers", .pl fs_prime_powers⟩) (h_power : FeOk P w K mg base 1 ⟨"power", .pl fs_power⟩) (z_gcd : mg "gcd" = some (.builtin "math.gcd")) : FeOk P w K mg base 2 ⟨"greatest_order", .pl fs_greatest_order⟩ :=
  ⟨f, fd, _, fn_pl Fn sc_greatest_order ⟨fe_cons (h_prime_powers.mono (by decide)) (fe_cons (h_power.mono (by decide)) (fe_nil)), bl_nil, fun _ => z_gcd⟩ d_greatest_order ln_greatest_order ev_greatest_order, g, Fn.kp, b⟩
theorem fe_order_of {f : Addr} {fd : FuncData} (Fn : Fun K "order_of" "order_of" s_order_of f fd) (g : mg "order_of" = some (.ref f)) (b : Binds K fd ["a", "n"] []) (h_greatest_order : FeOk P w K mg base 2 ⟨"greatest_order", .pl fs_greatest_order⟩) (h_prime_powers : FeOk P w K mg base 1 ⟨"prime_powers", .pl fs_prime_powers⟩) (h_power_by : FeOk P w K mg base 1 ⟨"power_by", .pl fs_power_by⟩) : FeOk P w K mg base 3 ⟨"order_of", .pl fs_order_of⟩ :=
  ⟨f, fd, _, fn_pl Fn sc_order_of ⟨fe_cons (h_greatest_order.mono (by decide)) (fe_cons (h_prime_powers.mono (by decide)) (fe_cons (h_power_by.mono (by decide)) (fe_nil))), bl_nil, fun h => by cases h⟩ d_order_of ln_order_of ev_order_of, g, Fn.kp, b⟩
theorem fe_expansion {f : Addr} {fd : FuncData} (Fn : Fun K "expansion" "expansion" s_expansion f fd) (g : mg "expansion" = some (.ref f)) (b : Binds K fd ["p", "q", "base"] []) (z_len : mg "len" = none) (z_tuple : mg "tuple" = none) : FeOk P w K mg base 1 ⟨"expansion", .pl fs_expansion⟩ :=
  ⟨f, fd, _, fn_pl Fn sc_expansion ⟨fe_nil, bl_cons z_len (bl_cons z_tuple (bl_nil)), fun h => by cases h⟩ d_expansion ln_expansion ev_expansion, g, Fn.kp, b⟩
theorem fe_number_of {f : Addr} {fd : FuncData} (Fn : Fun K "number_of" "number_of" s_number_of f fd) (g : mg "number_of" = some (.ref f)) (b : Binds K fd ["figures", "base"] [])  : FeOk P w K mg base 1 ⟨"number_of", .pl fs_number_of⟩ :=
  ⟨f, fd, _, fn_pl Fn sc_number_of ⟨fe_nil, bl_nil, fun h => by cases h⟩ d_number_of ln_number_of ev_number_of, g, Fn.kp, b⟩
theorem fe_value_of {f : Addr} {fd : FuncData} (Fn : Fun K "value_of" "value_of" s_value_of f fd) (g : mg "value_of" = some (.ref f)) (b : Binds K fd ["whole", "beginning", "round_", "base"] []) (h_power : FeOk P w K mg base 1 ⟨"power", .pl fs_power⟩) (h_number_of : FeOk P w K mg base 1 ⟨"number_of", .pl fs_number_of⟩) (z_len : mg "len" = none) (z_gcd : mg "gcd" = some (.builtin "math.gcd")) : FeOk P w K mg base 2 ⟨"value_of", .pl fs_value_of⟩ :=
  ⟨f, fd, _, fn_pl Fn sc_value_of ⟨fe_cons (h_power.mono (by decide)) (fe_cons (h_number_of.mono (by decide)) (fe_nil)), bl_cons z_len (bl_nil), fun _ => z_gcd⟩ d_value_of ln_value_of ev_value_of, g, Fn.kp, b⟩
theorem fe_lengths_of {f : Addr} {fd : FuncData} (Fn : Fun K "lengths_of" "lengths_of" s_lengths_of f fd) (g : mg "lengths_of" = some (.ref f)) (b : Binds K fd ["q", "base"] []) (h_power : FeOk P w K mg base 1 ⟨"power", .pl fs_power⟩) (h_order_of : FeOk P w K mg base 3 ⟨"order_of", .pl fs_order_of⟩) (z_gcd : mg "gcd" = some (.builtin "math.gcd")) : FeOk P w K mg base 4 ⟨"lengths_of", .pl fs_lengths_of⟩ :=
  ⟨f, fd, _, fn_pl Fn sc_lengths_of ⟨fe_cons (h_power.mono (by decide)) (fe_cons (h_order_of.mono (by decide)) (fe_nil)), bl_nil, fun _ => z_gcd⟩ d_lengths_of ln_lengths_of ev_lengths_of, g, Fn.kp, b⟩
theorem fe__law_state {f : Addr} {fd : FuncData} (Fn : Fun K "_law_state" "_law_state" s__law_state f fd) (g : mg "_law_state" = some (.ref f)) (b : Binds K fd ["script"] []) (z_int : mg "int" = none) (z_abs : mg "abs" = none) : FeOk P w K mg base 1 ⟨"_law_state", .mk fs__law_state⟩ :=
  ⟨f, fd, _, fn_mk Fn sc__law_state (C := C__law_state) ⟨fe_nil, bl_cons z_int (bl_cons z_abs (bl_nil)), fun h => by cases h⟩ rfl d1__law_state d2__law_state dc__law_state de__law_state FVm.ln FVm.ev, g, Fn.kp, b⟩
theorem divOk_spec {m : Int} (h : divOk m = true) : 0 < m ∧ m.natAbs.log2 < 9000 := by
  unfold divOk at h
  simpa using h
theorem fe__law_draw {f : Addr} {fd : FuncData} (Fn : Fun K "_law_draw" "_law_draw" s__law_draw f fd) (g : mg "_law_draw" = some (.ref f)) (b : Binds K fd ["state", "many"] []) (z_len : mg "len" = none) (z_int : mg "int" = none) : FeOk P w K mg base 1 ⟨"_law_draw", .sf drawA⟩ := by
  refine ⟨f, fd, _, Fn.ok (k := 0) sc__law_draw (fun vs H Q E h => ?_) (fun cdv A outer s H vs Q E hr h => ?_), g, Fn.kp, b⟩
  · obtain ⟨ft, v0, rest, F, args, t, r, t', rfl, sr, hl, rr, e, _⟩ := h
    obtain ⟨ns, s0, m, rfl, rfl, _⟩ := drawA_ev e
    obtain ⟨x, rfl, h0⟩ := RRs.one rr
    rfl
  · obtain ⟨ft, v0, rest, F, args, t, r, t', rfl, sr, hl, rr, e, q⟩ := h
    obtain ⟨ns0, s0, m, rfl, rfl, hm, hsl, hres⟩ := drawA_ev e
    obtain ⟨x, rfl, hx0⟩ := RRs.one rr
    obtain rfl := RR.int hx0
    obtain ⟨p, bb, rfl, rfl, hp, hbb, hne⟩ : ∃ p bb, v0 = .ref p ∧ ft = [p, bb] ∧ H p = some (.lst [.ref bb, .int s0]) ∧ H bb = some (.lst (ns0.map V.int)) ∧ p ≠ bb := by
      revert sr
      generalize hT : (PyData.list [PyData.list (ns0.map PyData.int), PyData.int s0]) = T
      intro sr
      cases sr with
      | two ns s h1 h2 hne =>
        simp only [PyData.list.injEq, List.cons.injEq, PyData.int.injEq, and_true] at hT
        obtain ⟨e1, e2⟩ := hT
        have : ns0 = ns := by
          have := congrArg toInts e1
          rwa [toInts_map, toInts_map] at this
        subst this
        subst e2
        exact ⟨_, _, rfl, rfl, h1, h2, hne⟩
      | one i j h1 => simp at hT
    refine ⟨_, pss_cons (ps_set (i := 2) sc__law_draw.nd rfl (.inl rfl) (pe_ix ix_list (pv 0) pe_int (fun _ _ => rfl)))
      (pss_cons (ps_while PassesOwn.never (PW.pt (pw_and (pt_cmpR op_gt (pe_callB call_len_seq (by rfl) z_len PySem.boot_len (pa_cons (pv 2) pa_nil)) pe_int (nomark _)) (pw_and1 (pt_cmpR op_eq (pe_ix ix_list (pv 2) pe_int (fun _ _ => rfl)) pe_int (nomark _)))))
          (pss_one (ps_expr (pe_bm PySem.F.plainAttrs_list PySem.F.slot_list_pop PySem.F.type_list_pop mt_popAt (pv 2) (pa_cons pe_int pa_nil)))))
      (pss_cons (ps_if (pt_cmpR op_gt (pe_callB call_len_seq (by rfl) z_len PySem.boot_len (pa_cons (pv 2) pa_nil)) pe_int (nomark _))
          (pss_cons (ps_set (i := 4) sc__law_draw.nd rfl (.inl rfl) (pe_ix ix_list (pv 2) pe_int (fun _ _ => rfl)))
          (pss_cons (ps_asg (pe_op op_fdivW (pv 4) (pv 1)) (pg_sub (pv 2) pe_int set_list))
          (pss_one (ps_ret (pe_op op_mod (pe_callTy call_int1 (by rfl) z_int PyProof.Rows.boot_int (pa_cons (pv 4) pa_nil)) (pv 1))))))
          pss_nil)
      (pss_cons (ps_set (i := 3) sc__law_draw.nd rfl (.inl rfl) (pe_op op_mod (pe_callTy call_int1 (by rfl) z_int PyProof.Rows.boot_int (pa_cons (pe_op op_add (pe_op op_mulX (pe_ix ix_list (pv 0) pe_int (fun _ _ => rfl)) pe_int) pe_int) pa_nil)) pe_int))
      (pss_cons (ps_asg (pv 3) (pg_sub (pv 0) pe_int set_list))
      (pss_one (ps_ret (pe_op op_mod (pe_callTy call_int1 (by rfl) z_int PyProof.Rows.boot_int (pa_cons (pe_op op_fdivW (pv 3) pe_int) pa_nil)) (pv 1)))))))), ?_⟩
    have hd := divOk_spec hm
    -- cells = state[0]
    refine ⟨.ref p, rfl, p, _, 0, .ref bb, rfl, rfl, SqL.of hp, rfl, ?_⟩
    -- while
    refine ⟨fun j σ H1 => ∃ ns, σ = [some (.ref p), some (.int m), some (.ref bb), none, none] ∧ H1 p = some (.lst [.ref bb, .int s0]) ∧ H1 bb = some (.lst (ns.map V.int)) ∧ ns.dropWhile (· == 0) = ns0.dropWhile (· == 0) ∧ j = ns.length ∧ ∀ a, a ≠ bb → H1 a = H a, ⟨_, ns0, rfl, hp, hbb, rfl, rfl, fun _ _ => rfl⟩, ?_⟩
    rintro j σ1 H1 ⟨ns, rfl, g1, g2, g3, rfl, g4⟩
    refine ⟨.ref bb, rfl, bb, _, rfl, .inl (SqL.of g2), ?_⟩
    refine ⟨_, 0, rfl, rfl, _, rfl, ?_⟩
    have hmul : CMulX s0 48271 := by
      have b : ∀ x : Int, Builtin.Int.intBits x ≤ x.natAbs.log2 + 1 := fun x => by
        unfold Builtin.Int.intBits
        split <;> omega
      have h1 := b s0
      have h2 : Builtin.Int.intBits 48271 = 16 := by decide +kernel
      show (Builtin.Int.intBits s0 : Int) + (Builtin.Int.intBits 48271 : Int) ≤ 134217728
      omega
    -- both are there still
    have fin : ∀ (H' : Hp) (o1 o2 : HO), (∀ a, a ≠ p → a ≠ bb → H' a = H a) → H' p = some o1 → H' bb = some o2 → Z.Step [p, bb] H F H' F ∧ HL [p, bb] H' F := by
      intro H' o1 o2 h1 h2 h3
      have hk : ∀ a o, H a = some o → a ∉ [p, bb] → H' a = some o := fun a o e n => by
        simp only [List.mem_cons, List.not_mem_nil, or_false, not_or] at n
        rw [h1 a n.1 n.2]; exact e
      have ht : ∀ a, H a ≠ none → H' a ≠ none := fun a e => by
        by_cases c1 : a = p
        · subst c1; rw [h2]; simp
        · by_cases c2 : a = bb
          · subst c2; rw [h3]; simp
          · rw [h1 a c1 c2]; exact e
      exact ⟨⟨hk, ht, fun _ h => h, fun _ h => .inl h⟩, ⟨fun a h => ht a (hl.trk a h), hl.nft⟩⟩
    cases ns with
    | nil =>
      refine ite2 (fun h => by simp at h) (fun _ => ?_)
      refine ite2 (fun h => by cases h) (fun _ => ?_)
      refine ⟨.ref bb, rfl, bb, _, rfl, .inl (SqL.of g2), _, 0, rfl, rfl, _, rfl, ite2 (fun h => by simp at h) (fun _ => ?_)⟩
      obtain ⟨v, rest, e1, _, _⟩ | ⟨_, rfl, rfl⟩ := hres
      · rw [← g3] at e1; cases e1
      refine ⟨.ref p, rfl, p, _, 1, .int s0, rfl, rfl, SqL.of g1, rfl, s0, 48271, rfl, rfl, hmul, _, 12345, rfl, rfl, .inl ⟨_, rfl, _, 2147483647, rfl, rfl, (show (0 : Int) < 2147483647 by decide), ?_⟩⟩
      refine ⟨_, rfl, .ref p, rfl, p, _, 1, 1, rfl, rfl, g1, rfl, ?_⟩
      refine ⟨_, rfl, _, 64, rfl, rfl, ⟨by decide, by decide +kernel⟩, .inl ⟨_, rfl, .int m, rfl, _, m, rfl, rfl, hd.1, ?_⟩⟩
      have hp' : (upd H1 p (.lst [.ref bb, .int ((s0 * 48271 + 12345) % 2147483647)])) p = some (.lst [.ref bb, .int ((s0 * 48271 + 12345) % 2147483647)]) := upd_same
      have hb' : (upd H1 p (.lst [.ref bb, .int ((s0 * 48271 + 12345) % 2147483647)])) bb = some (.lst (([] : List Int).map V.int)) := by rw [upd_ne hne.symm]; exact g2
      obtain ⟨st1, hl1⟩ := fin _ _ _ (fun a n1 n2 => by rw [upd_ne n1]; exact g4 a n2) hp' hb'
      exact q _ _ F st1 hl1 (.two [] _ hp' hb' hne) rep_int
    | cons v r0 =>
      refine ite2 (fun _ => ?_) (fun h => (h (by rw [decide_eq_true_eq, List.length_map, List.length_cons]; omega)).elim)
      refine ⟨.ref bb, rfl, bb, _, 0, .int v, rfl, rfl, SqL.of g2, L2.atI_nat (j := 0) rfl, rfl, _, rfl, ?_⟩
      by_cases hv : v = 0
      · subst hv
        refine ite2 (fun _ => ?_) (fun h => (h (by simp)).elim)
        refine ⟨fun σ H2 => ∃ ns, σ = [some (.ref p), some (.int m), some (.ref bb), none, none] ∧ H2 p = some (.lst [.ref bb, .int s0]) ∧ H2 bb = some (.lst (ns.map V.int)) ∧ ns.dropWhile (· == 0) = ns0.dropWhile (· == 0) ∧ ns.length = r0.length ∧ ∀ a, a ≠ bb → H2 a = H a, fun σ' H' ⟨ns, k1, k2, k3, k4, k5, k6⟩ => ⟨ns.length, by rw [k5]; simp, ns, k1, k2, k3, k4, rfl, k6⟩, ?_⟩
        refine ⟨.ref bb, rfl, .inl ⟨rfl, _, SqL.of g2⟩, bb, _, 0, 0, .int 0, rfl, rfl, g2, by decide, by decide, (ixN_seq (show ixN ((0 :: r0).map V.int).length 0 = some 0 by unfold ixN; rw [List.length_map, List.length_cons, if_pos (by omega), if_pos (by omega)]; rfl)).1, rfl, ?_⟩
        refine ⟨r0, rfl, ?_, upd_same, ?_, rfl, fun a n => ?_⟩
        · rw [upd_ne hne]; exact g1
        · rw [← g3]; rfl
        · rw [upd_ne n]; exact g4 a n
      · refine ite2 (fun h => absurd h (by simpa using hv)) (fun _ => ?_)
        refine ⟨.ref bb, rfl, bb, _, rfl, .inl (SqL.of g2), _, 0, rfl, rfl, _, rfl, ite2 (fun _ => ?_) (fun h => (h (by rw [decide_eq_true_eq, List.length_map, List.length_cons]; omega)).elim)⟩
        obtain ⟨v', rest, e1, rfl, rfl⟩ | ⟨e1, _, _⟩ := hres
        · rw [← g3] at e1
          have e2 : v = v' ∧ r0 = rest := by
            rw [List.dropWhile_cons_of_neg (by simpa using hv)] at e1
            simpa using e1
          obtain ⟨rfl, rfl⟩ := e2
          refine ⟨.ref bb, rfl, bb, _, 0, .int v, rfl, rfl, SqL.of g2, L2.atI_nat (j := 0) rfl, ?_⟩
          refine ⟨.int v, rfl, .int m, rfl, v, m, rfl, rfl, hd, .ref bb, rfl, bb, _, 0, 0, rfl, rfl, g2, (show ixN ((v :: r0).map V.int).length 0 = some 0 by unfold ixN; rw [List.length_map, List.length_cons, if_pos (by omega), if_pos (by omega)]; rfl), ?_⟩
          refine ⟨.int v, rfl, .inl ⟨_, rfl, .int m, rfl, v, m, rfl, rfl, hd.1, ?_⟩⟩
          have hb' : (upd H1 bb (.lst ((V.int v :: r0.map V.int).set 0 (.int (v / m))))) bb = some (.lst ((v / m :: r0).map V.int)) := upd_same
          have hp' : (upd H1 bb (.lst ((V.int v :: r0.map V.int).set 0 (.int (v / m))))) p = some (.lst [.ref bb, .int s0]) := by rw [upd_ne hne]; exact g1
          obtain ⟨st1, hl1⟩ := fin _ _ _ (fun a n1 n2 => by rw [upd_ne n2]; exact g4 a n2) hp' hb'
          exact q _ _ F st1 hl1 (.two _ _ hp' hb' hne) rep_int
        · rw [← g3, List.dropWhile_cons_of_neg (by simpa using hv)] at e1; cases e1

theorem fe__law_frac {f : Addr} {fd : FuncData} (Fn : Fun K "_law_frac" "_law_frac" s__law_frac f fd) (g : mg "_law_frac" = some (.ref f)) (b : Binds K fd ["p", "q"] []) (z_abs : mg "abs" = none) (z_int : mg "int" = none) : FeOk P w K mg base 1 ⟨"_law_frac", .pl fs__law_frac⟩ :=
  ⟨f, fd, _, fn_pl Fn sc__law_frac ⟨fe_nil, bl_cons z_abs (bl_cons z_int (bl_nil)), fun h => by cases h⟩ d__law_frac ln__law_frac ev__law_frac, g, Fn.kp, b⟩
theorem fe__law_add {f : Addr} {fd : FuncData} (Fn : Fun K "_law_add" "_law_add" s__law_add f fd) (g : mg "_law_add" = some (.ref f)) (b : Binds K fd ["one", "other"] []) (h__law_frac : FeOk P w K mg base 1 ⟨"_law_frac", .pl fs__law_frac⟩) : FeOk P w K mg base 2 ⟨"_law_add", .pl fs__law_add⟩ :=
  ⟨f, fd, _, fn_pl Fn sc__law_add ⟨fe_cons (h__law_frac.mono (by decide)) (fe_nil), bl_nil, fun h => by cases h⟩ d__law_add ln__law_add ev__law_add, g, Fn.kp, b⟩
theorem fe__law_gcd {f : Addr} {fd : FuncData} (Fn : Fun K "_law_gcd" "_law_gcd" s__law_gcd f fd) (g : mg "_law_gcd" = some (.ref f)) (b : Binds K fd ["a", "b"] []) (z_abs : mg "abs" = none) (z_int : mg "int" = none) : FeOk P w K mg base 1 ⟨"_law_gcd", .pl fs__law_gcd⟩ :=
  ⟨f, fd, _, fn_pl Fn sc__law_gcd ⟨fe_nil, bl_cons z_abs (bl_cons z_int (bl_nil)), fun h => by cases h⟩ d__law_gcd ln__law_gcd ev__law_gcd, g, Fn.kp, b⟩
theorem fn_law {f : Addr} {fd : FuncData} (Fn : Fun K "law" "law" s_law f fd) (g : mg "law" = some (.ref f)) (b : Binds K fd ["script"] []) (h__law_state : FeOk P w K mg base 1 ⟨"_law_state", .mk fs__law_state⟩) (h__law_draw : FeOk P w K mg base 1 ⟨"_law_draw", .sf fs__law_draw⟩) (h_expansion : FeOk P w K mg base 1 ⟨"expansion", .pl fs_expansion⟩) (h__law_frac : FeOk P w K mg base 1 ⟨"_law_frac", .pl fs__law_frac⟩) (h_lengths_of : FeOk P w K mg base 4 ⟨"lengths_of", .pl fs_lengths_of⟩) (h__law_gcd : FeOk P w K mg base 1 ⟨"_law_gcd", .pl fs__law_gcd⟩) (h_value_of : FeOk P w K mg base 2 ⟨"value_of", .pl fs_value_of⟩) (h__law_add : FeOk P w K mg base 2 ⟨"_law_add", .pl fs__law_add⟩) (h_order_of : FeOk P w K mg base 3 ⟨"order_of", .pl fs_order_of⟩) (z_range : mg "range" = none) (z_list : mg "list" = none) (z_len : mg "len" = none) (z_int : mg "int" = none) (z_tuple : mg "tuple" = none) : FnOk P w K mg base CX0 5 f fd ["script"] (spOf K (.pl fLaw)) :=
  fn_pl Fn sc_law ⟨fe_cons (h__law_state.mono (by decide)) (fe_cons (h__law_draw.mono (by decide)) (fe_cons (h_expansion.mono (by decide)) (fe_cons (h__law_frac.mono (by decide)) (fe_cons (h_lengths_of.mono (by decide)) (fe_cons (h__law_gcd.mono (by decide)) (fe_cons (h_value_of.mono (by decide)) (fe_cons (h__law_add.mono (by decide)) (fe_cons (h_order_of.mono (by decide)) (fe_nil))))))))), bl_cons z_range (bl_cons z_list (bl_cons z_len (bl_cons z_int (bl_cons z_tuple (bl_nil))))), fun h => by cases h⟩ d_law fLaw_len ev_law
end
theorem all_mk {l : PySem.W.OpenLaw} {w : World} {K : PySem.W.Frag} {h : Heap} {mg : Str → Option Value} {fa f1 f2 f3 f4 f5 f6 f7 f8 f9 f10 f11 f12 f13 f14 f15 : Addr} (X : K.In h) (G : h.Ns mainGlobals mg) (hfa : mg "law" = some (.ref fa))
    {od1 an1 od2 an2 od3 an3 od4 an4 od5 an5 od6 an6 od7 an7 od8 an8 od9 an9 od10 an10 od11 an11 od12 an12 od13 an13 od14 an14 od15 an15 : Option Addr} {sl1 sl2 sl3 sl4 sl5 sl6 sl7 sl8 sl9 sl10 sl11 sl12 sl13 sl14 sl15 : Array (Option Value)} {oc1 kV1 dc1 pm1 cd1 ct1 oc2 kV2 dc2 pm2 cd2 ct2 oc3 kV3 dc3 pm3 cd3 ct3 oc4 kV4 dc4 pm4 cd4 ct4 oc5 kV5 dc5 pm5 cd5 ct5 oc6 kV6 dc6 pm6 cd6 ct6 oc7 kV7 dc7 pm7 cd7 ct7 oc8 kV8 dc8 pm8 cd8 ct8 oc9 kV9 dc9 pm9 cd9 ct9 oc10 kV10 dc10 pm10 cd10 ct10 oc11 kV11 dc11 pm11 cd11 ct11 oc12 kV12 dc12 pm12 cd12 ct12 oc13 kV13 dc13 pm13 cd13 ct13 oc14 kV14 dc14 pm14 cd14 ct14 oc15 kV15 dc15 pm15 cd15 ct15 : Value}
    (a1 : PySem.W.nsIn K mainGlobals "power" = some (some (.ref f1))) (l1 : K.lookup f1 = some ⟨oc1, od1, .func (PySem.W.fnOf "power" "power" (defArgs s_power) (defBody s_power) (defScope s_power) .none kV1 dc1 pm1 an1 cd1 ct1), sl1⟩) (c1 : PySem.W.codeIn K cd1 "power" = true) (k1 : PySem.W.keepIn K (.ref f1) = true)
    (a2 : PySem.W.nsIn K mainGlobals "prime_powers" = some (some (.ref f2))) (l2 : K.lookup f2 = some ⟨oc2, od2, .func (PySem.W.fnOf "prime_powers" "prime_powers" (defArgs s_prime_powers) (defBody s_prime_powers) (defScope s_prime_powers) .none kV2 dc2 pm2 an2 cd2 ct2), sl2⟩) (c2 : PySem.W.codeIn K cd2 "prime_powers" = true) (k2 : PySem.W.keepIn K (.ref f2) = true)
    (a3 : PySem.W.nsIn K mainGlobals "power_by" = some (some (.ref f3))) (l3 : K.lookup f3 = some ⟨oc3, od3, .func (PySem.W.fnOf "power_by" "power_by" (defArgs s_power_by) (defBody s_power_by) (defScope s_power_by) .none kV3 dc3 pm3 an3 cd3 ct3), sl3⟩) (c3 : PySem.W.codeIn K cd3 "power_by" = true) (k3 : PySem.W.keepIn K (.ref f3) = true)
    (a4 : PySem.W.nsIn K mainGlobals "greatest_order" = some (some (.ref f4))) (l4 : K.lookup f4 = some ⟨oc4, od4, .func (PySem.W.fnOf "greatest_order" "greatest_order" (defArgs s_greatest_order) (defBody s_greatest_order) (defScope s_greatest_order) .none kV4 dc4 pm4 an4 cd4 ct4), sl4⟩) (c4 : PySem.W.codeIn K cd4 "greatest_order" = true) (k4 : PySem.W.keepIn K (.ref f4) = true)
    (a5 : PySem.W.nsIn K mainGlobals "order_of" = some (some (.ref f5))) (l5 : K.lookup f5 = some ⟨oc5, od5, .func (PySem.W.fnOf "order_of" "order_of" (defArgs s_order_of) (defBody s_order_of) (defScope s_order_of) .none kV5 dc5 pm5 an5 cd5 ct5), sl5⟩) (c5 : PySem.W.codeIn K cd5 "order_of" = true) (k5 : PySem.W.keepIn K (.ref f5) = true)
    (a6 : PySem.W.nsIn K mainGlobals "expansion" = some (some (.ref f6))) (l6 : K.lookup f6 = some ⟨oc6, od6, .func (PySem.W.fnOf "expansion" "expansion" (defArgs s_expansion) (defBody s_expansion) (defScope s_expansion) .none kV6 dc6 pm6 an6 cd6 ct6), sl6⟩) (c6 : PySem.W.codeIn K cd6 "expansion" = true) (k6 : PySem.W.keepIn K (.ref f6) = true)
    (a7 : PySem.W.nsIn K mainGlobals "number_of" = some (some (.ref f7))) (l7 : K.lookup f7 = some ⟨oc7, od7, .func (PySem.W.fnOf "number_of" "number_of" (defArgs s_number_of) (defBody s_number_of) (defScope s_number_of) .none kV7 dc7 pm7 an7 cd7 ct7), sl7⟩) (c7 : PySem.W.codeIn K cd7 "number_of" = true) (k7 : PySem.W.keepIn K (.ref f7) = true)
    (a8 : PySem.W.nsIn K mainGlobals "value_of" = some (some (.ref f8))) (l8 : K.lookup f8 = some ⟨oc8, od8, .func (PySem.W.fnOf "value_of" "value_of" (defArgs s_value_of) (defBody s_value_of) (defScope s_value_of) .none kV8 dc8 pm8 an8 cd8 ct8), sl8⟩) (c8 : PySem.W.codeIn K cd8 "value_of" = true) (k8 : PySem.W.keepIn K (.ref f8) = true)
    (a9 : PySem.W.nsIn K mainGlobals "lengths_of" = some (some (.ref f9))) (l9 : K.lookup f9 = some ⟨oc9, od9, .func (PySem.W.fnOf "lengths_of" "lengths_of" (defArgs s_lengths_of) (defBody s_lengths_of) (defScope s_lengths_of) .none kV9 dc9 pm9 an9 cd9 ct9), sl9⟩) (c9 : PySem.W.codeIn K cd9 "lengths_of" = true) (k9 : PySem.W.keepIn K (.ref f9) = true)
    (a10 : PySem.W.nsIn K mainGlobals "_law_state" = some (some (.ref f10))) (l10 : K.lookup f10 = some ⟨oc10, od10, .func (PySem.W.fnOf "_law_state" "_law_state" (defArgs s__law_state) (defBody s__law_state) (defScope s__law_state) .none kV10 dc10 pm10 an10 cd10 ct10), sl10⟩) (c10 : PySem.W.codeIn K cd10 "_law_state" = true) (k10 : PySem.W.keepIn K (.ref f10) = true)
    (a11 : PySem.W.nsIn K mainGlobals "_law_draw" = some (some (.ref f11))) (l11 : K.lookup f11 = some ⟨oc11, od11, .func (PySem.W.fnOf "_law_draw" "_law_draw" (defArgs s__law_draw) (defBody s__law_draw) (defScope s__law_draw) .none kV11 dc11 pm11 an11 cd11 ct11), sl11⟩) (c11 : PySem.W.codeIn K cd11 "_law_draw" = true) (k11 : PySem.W.keepIn K (.ref f11) = true)
    (a12 : PySem.W.nsIn K mainGlobals "_law_frac" = some (some (.ref f12))) (l12 : K.lookup f12 = some ⟨oc12, od12, .func (PySem.W.fnOf "_law_frac" "_law_frac" (defArgs s__law_frac) (defBody s__law_frac) (defScope s__law_frac) .none kV12 dc12 pm12 an12 cd12 ct12), sl12⟩) (c12 : PySem.W.codeIn K cd12 "_law_frac" = true) (k12 : PySem.W.keepIn K (.ref f12) = true)
    (a13 : PySem.W.nsIn K mainGlobals "_law_add" = some (some (.ref f13))) (l13 : K.lookup f13 = some ⟨oc13, od13, .func (PySem.W.fnOf "_law_add" "_law_add" (defArgs s__law_add) (defBody s__law_add) (defScope s__law_add) .none kV13 dc13 pm13 an13 cd13 ct13), sl13⟩) (c13 : PySem.W.codeIn K cd13 "_law_add" = true) (k13 : PySem.W.keepIn K (.ref f13) = true)
    (a14 : PySem.W.nsIn K mainGlobals "_law_gcd" = some (some (.ref f14))) (l14 : K.lookup f14 = some ⟨oc14, od14, .func (PySem.W.fnOf "_law_gcd" "_law_gcd" (defArgs s__law_gcd) (defBody s__law_gcd) (defScope s__law_gcd) .none kV14 dc14 pm14 an14 cd14 ct14), sl14⟩) (c14 : PySem.W.codeIn K cd14 "_law_gcd" = true) (k14 : PySem.W.keepIn K (.ref f14) = true)
    (a15 : PySem.W.nsIn K mainGlobals "law" = some (some (.ref f15))) (l15 : K.lookup f15 = some ⟨oc15, od15, .func (PySem.W.fnOf "law" "law" (defArgs s_law) (defBody s_law) (defScope s_law) .none kV15 dc15 pm15 an15 cd15 ct15), sl15⟩) (c15 : PySem.W.codeIn K cd15 "law" = true) (k15 : PySem.W.keepIn K (.ref f15) = true)
    (z1 : PySem.W.nsIn K mainGlobals "len" = some none)
    (z2 : PySem.W.nsIn K mainGlobals "tuple" = some none)
    (z3 : PySem.W.nsIn K mainGlobals "int" = some none)
    (z4 : PySem.W.nsIn K mainGlobals "abs" = some none)
    (z5 : PySem.W.nsIn K mainGlobals "range" = some none)
    (z6 : PySem.W.nsIn K mainGlobals "list" = some none)
    (zg : PySem.W.nsIn K mainGlobals "gcd" = some (some (.builtin "math.gcd")))
    : ∃ fd : FuncData, (∀ (s : Shared) (v : Value), BindsTo s fd ⟨[v], []⟩ [("script", v)]) ∧ ∀ base : Heap, K.In base → base.Ns mainGlobals mg → FnOk l.prog w K mg base CX0 5 fa fd ["script"] (spOf K (.pl fLaw)) := by
  have e := hfa.symm.trans (PySem.W.mg_of X G a15)
  cases e
  have F1 := fun_mk (st := s_power) l1 c1 k1
  have b1 := F1.binds (ps := ["base", "n"]) fun _ _ _ _ _ _ us hl => match us, hl with | [_, _], _ => rfl
  have F2 := fun_mk (st := s_prime_powers) l2 c2 k2
  have b2 := F2.binds (ps := ["n"]) fun _ _ _ _ _ _ us hl => match us, hl with | [_], _ => rfl
  have F3 := fun_mk (st := s_power_by) l3 c3 k3
  have b3 := F3.binds (ps := ["a", "n", "m"]) fun _ _ _ _ _ _ us hl => match us, hl with | [_, _, _], _ => rfl
  have F4 := fun_mk (st := s_greatest_order) l4 c4 k4
  have b4 := F4.binds (ps := ["n"]) fun _ _ _ _ _ _ us hl => match us, hl with | [_], _ => rfl
  have F5 := fun_mk (st := s_order_of) l5 c5 k5
  have b5 := F5.binds (ps := ["a", "n"]) fun _ _ _ _ _ _ us hl => match us, hl with | [_, _], _ => rfl
  have F6 := fun_mk (st := s_expansion) l6 c6 k6
  have b6 := F6.binds (ps := ["p", "q", "base"]) fun _ _ _ _ _ _ us hl => match us, hl with | [_, _, _], _ => rfl
  have F7 := fun_mk (st := s_number_of) l7 c7 k7
  have b7 := F7.binds (ps := ["figures", "base"]) fun _ _ _ _ _ _ us hl => match us, hl with | [_, _], _ => rfl
  have F8 := fun_mk (st := s_value_of) l8 c8 k8
  have b8 := F8.binds (ps := ["whole", "beginning", "round_", "base"]) fun _ _ _ _ _ _ us hl => match us, hl with | [_, _, _, _], _ => rfl
  have F9 := fun_mk (st := s_lengths_of) l9 c9 k9
  have b9 := F9.binds (ps := ["q", "base"]) fun _ _ _ _ _ _ us hl => match us, hl with | [_, _], _ => rfl
  have F10 := fun_mk (st := s__law_state) l10 c10 k10
  have b10 := F10.binds (ps := ["script"]) fun _ _ _ _ _ _ us hl => match us, hl with | [_], _ => rfl
  have F11 := fun_mk (st := s__law_draw) l11 c11 k11
  have b11 := F11.binds (ps := ["state", "many"]) fun _ _ _ _ _ _ us hl => match us, hl with | [_, _], _ => rfl
  have F12 := fun_mk (st := s__law_frac) l12 c12 k12
  have b12 := F12.binds (ps := ["p", "q"]) fun _ _ _ _ _ _ us hl => match us, hl with | [_, _], _ => rfl
  have F13 := fun_mk (st := s__law_add) l13 c13 k13
  have b13 := F13.binds (ps := ["one", "other"]) fun _ _ _ _ _ _ us hl => match us, hl with | [_, _], _ => rfl
  have F14 := fun_mk (st := s__law_gcd) l14 c14 k14
  have b14 := F14.binds (ps := ["a", "b"]) fun _ _ _ _ _ _ us hl => match us, hl with | [_, _], _ => rfl
  have F15 := fun_mk (st := s_law) l15 c15 k15
  have b15 := F15.binds (ps := ["script"]) fun _ _ _ _ _ _ us hl => match us, hl with | [_], _ => rfl
  have y_len := PySem.W.mg_none_of X G z1
  have y_tuple := PySem.W.mg_none_of X G z2
  have y_int := PySem.W.mg_none_of X G z3
  have y_abs := PySem.W.mg_none_of X G z4
  have y_range := PySem.W.mg_none_of X G z5
  have y_list := PySem.W.mg_none_of X G z6
  have y_gcd := PySem.W.mg_of X G zg
  refine ⟨PySem.W.fnOf "law" "law" (defArgs s_law) (defBody s_law) (defScope s_law) .none kV15 dc15 pm15 an15 cd15 ct15, fun s v => .of_eq rfl, fun base _ _ => ?_⟩
  have h1 := fe_power (P := l.prog) (w := w) (base := base) F1 (PySem.W.mg_of X G a1) b1 
  have h2 := fe_prime_powers (P := l.prog) (w := w) (base := base) F2 (PySem.W.mg_of X G a2) b2 
  have h3 := fe_power_by (P := l.prog) (w := w) (base := base) F3 (PySem.W.mg_of X G a3) b3 
  have h4 := fe_greatest_order (P := l.prog) (w := w) (base := base) F4 (PySem.W.mg_of X G a4) b4 h2 h1 y_gcd
  have h5 := fe_order_of (P := l.prog) (w := w) (base := base) F5 (PySem.W.mg_of X G a5) b5 h4 h2 h3
  have h6 := fe_expansion (P := l.prog) (w := w) (base := base) F6 (PySem.W.mg_of X G a6) b6 y_len y_tuple
  have h7 := fe_number_of (P := l.prog) (w := w) (base := base) F7 (PySem.W.mg_of X G a7) b7 
  have h8 := fe_value_of (P := l.prog) (w := w) (base := base) F8 (PySem.W.mg_of X G a8) b8 h1 h7 y_len y_gcd
  have h9 := fe_lengths_of (P := l.prog) (w := w) (base := base) F9 (PySem.W.mg_of X G a9) b9 h1 h5 y_gcd
  have h10 := fe__law_state (P := l.prog) (w := w) (base := base) F10 (PySem.W.mg_of X G a10) b10 y_int y_abs
  have h11 := fe__law_draw (P := l.prog) (w := w) (base := base) F11 (PySem.W.mg_of X G a11) b11 y_len y_int
  have h12 := fe__law_frac (P := l.prog) (w := w) (base := base) F12 (PySem.W.mg_of X G a12) b12 y_abs y_int
  have h13 := fe__law_add (P := l.prog) (w := w) (base := base) F13 (PySem.W.mg_of X G a13) b13 h12
  have h14 := fe__law_gcd (P := l.prog) (w := w) (base := base) F14 (PySem.W.mg_of X G a14) b14 y_abs y_int
  exact fn_law F15 (PySem.W.mg_of X G a15) b15 h10 h11 h6 h12 h9 h14 h8 h13 h5 y_range y_list y_len y_int y_tuple
end K61
open PySem PySem.W PyProof.Rows
set_option maxHeartbeats 0 in
theorem PySem.Challenge.cw_divisorhouse_k61_whole_figures_in_other_holds : PySem.Challenge.rw_divisorhouse_k61_whole_figures_in_other.Holds := by
  w_on; o_law; k_head; (case hw => w_witness2)
  k_fill
  refine L2.walk_ofB (l := PySem.Challenge.rw_divisorhouse_k61_whole_figures_in_other) (n := 63) (k := 5) (x := "script") (CX := fun _ => L2.CX0) (sp := fun w => Z.spOf _ (.pl Z.fLaw)) rfl (by decide) rfl ⟨rfl, by decide, by decide⟩ (fun w h Y => PySem.W.kIn_of Y) ?F (fun _ _ _ _ hl hb _ hS => Z.law_end hl hb hS) (fun _ _ _ _ _ h => h)
  case F =>
    intro w mg fa h KX G hmg
    refine' K61.all_mk KX G hmg ?a1 ?l1 ?c1 ?k1 ?a2 ?l2 ?c2 ?k2 ?a3 ?l3 ?c3 ?k3 ?a4 ?l4 ?c4 ?k4 ?a5 ?l5 ?c5 ?k5 ?a6 ?l6 ?c6 ?k6 ?a7 ?l7 ?c7 ?k7 ?a8 ?l8 ?c8 ?k8 ?a9 ?l9 ?c9 ?k9 ?a10 ?l10 ?c10 ?k10 ?a11 ?l11 ?c11 ?k11 ?a12 ?l12 ?c12 ?k12 ?a13 ?l13 ?c13 ?k13 ?a14 ?l14 ?c14 ?k14 ?a15 ?l15 ?c15 ?k15 ?z1 ?z2 ?z3 ?z4 ?z5 ?z6 ?zg
    (case a1 => k_is); (case l1 => k_is); (case c1 => k_is); (case k1 => k_is); (case a2 => k_is); (case l2 => k_is); (case c2 => k_is); (case k2 => k_is); (case a3 => k_is); (case l3 => k_is); (case c3 => k_is); (case k3 => k_is); (case a4 => k_is); (case l4 => k_is); (case c4 => k_is); (case k4 => k_is); (case a5 => k_is); (case l5 => k_is); (case c5 => k_is); (case k5 => k_is); (case a6 => k_is); (case l6 => k_is); (case c6 => k_is); (case k6 => k_is); (case a7 => k_is); (case l7 => k_is); (case c7 => k_is); (case k7 => k_is); (case a8 => k_is); (case l8 => k_is); (case c8 => k_is); (case k8 => k_is); (case a9 => k_is); (case l9 => k_is); (case c9 => k_is); (case k9 => k_is); (case a10 => k_is); (case l10 => k_is); (case c10 => k_is); (case k10 => k_is); (case a11 => k_is); (case l11 => k_is); (case c11 => k_is); (case k11 => k_is); (case a12 => k_is); (case l12 => k_is); (case c12 => k_is); (case k12 => k_is); (case a13 => k_is); (case l13 => k_is); (case c13 => k_is); (case k13 => k_is); (case a14 => k_is); (case l14 => k_is); (case c14 => k_is); (case k14 => k_is); (case a15 => k_is); (case l15 => k_is); (case c15 => k_is); (case k15 => k_is); (case z1 => k_is); (case z2 => k_is); (case z3 => k_is); (case z4 => k_is); (case z5 => k_is); (case z6 => k_is); (case zg => k_is)
