import PyProof.Rows.All
import Wide.All
import OpenK.AllK
import Wide.FinOn
import HandS.ForMost
import HandS.Exc
import HandS.ExcOwn
import HandS.TryOnly
import HandS.WordsExc
import HandS.IsInst
import HandS.TupAny
import HandS.TupMul
import KE.DataEq
import HandS.Style
import HandS.Walk
import HandS.Zip
import HandS.Text
import KE.SortData
import KE.DatumOrd
import HandS.More
import KE.KDictDisplayH
import HandS.ExcInit
import PyProof.EnumMake
import PyProof.Draws
import KE.GoesEnum
import HandS.ExcField
import HandS.TryMany
import HandS.CallLocal
import PySem.Challenge.RW_wordplays_k80_whole_energies
import HandS.Ends
import HandS.ExcIs
set_option Elab.async false
set_option linter.all false
set_option maxRecDepth 100000
set_option maxHeartbeats 4000000
/-! VS1: plain values instead of heaps: D, what stands at an address for a D (R), an expression as a function of the slots (EV). -/
namespace VS
open PySem PySem.Spec L2
open PyProof.Rows hiding St

/-- plain data; bag: the one list that may change while an expression runs -/
inductive D where
  | non | bl (b : Bool) | int (i : Int) | str (x : Str)
  | tup (xs : List D) | lst (xs : List D) | dK (ks : List Key) (xs : List D) | dT (ks : List (List Key)) (xs : List D) | bag

abbrev Reg := Addr → Prop
def kD : Key → D
  | .inl i => .int i
  | .inr x => .str x
def tD (ks : List Key) : D := .tup (ks.map kD)
mutual
def R (H : Hp) (F : Reg) (β : Option Addr) : D → V → Prop
  | .non, v => v = .non
  | .bl b, v => v = .bl b
  | .int i, v => v = .int i
  | .str x, v => v = .str x
  | .tup xs, v => ∃ a vs, v = .ref a ∧ H a = some (.tup vs) ∧ Rs H F β xs vs
  | .lst xs, v => ∃ a vs, v = .ref a ∧ F a ∧ H a = some (.lst vs) ∧ Rs H F β xs vs
  | .dK ks xs, v => ∃ a kv, v = .ref a ∧ F a ∧ Rd H a (.dK kv) ∧ ks = kv.map (·.1) ∧ Rs H F β xs (kv.map (·.2))
  | .dT ks xs, v => ∃ a kv, v = .ref a ∧ F a ∧ Rd H a (.dT kv) ∧ ks = kv.map (·.1) ∧ Rs H F β xs (kv.map (·.2))
  | .bag, v => ∃ b, β = some b ∧ v = .ref b
def Rs (H : Hp) (F : Reg) (β : Option Addr) : List D → List V → Prop
  | [], vs => vs = []
  | d :: ds, vs => ∃ v r, vs = v :: r ∧ R H F β d v ∧ Rs H F β ds r
end
mutual
def flat : D → Bool
  | .tup xs => flats xs
  | .lst _ => false
  | .dK _ _ => false
  | .dT _ _ => false
  | _ => true
def flats : List D → Bool
  | [] => true
  | d :: ds => flat d && flats ds
end

section
variable {H H' : Hp} {F F' : Reg} {β : Option Addr}
mutual
theorem R.mono (hT : ∀ a xs, H a = some (.tup xs) → H' a = some (.tup xs)) (hF : ∀ a, F a → F' a ∧ ∀ u, H a = some u → H' a = some u) : ∀ (d : D) (v : V), R H F β d v → R H' F' β d v
  | .non, _, h => h
  | .bl _, _, h => h
  | .int _, _, h => h
  | .str _, _, h => h
  | .tup xs, v, h => by
    unfold R at h ⊢
    obtain ⟨a, vs, e, q, r⟩ := h
    exact ⟨a, vs, e, hT a vs q, Rs.mono hT hF xs vs r⟩
  | .lst xs, v, h => by
    unfold R at h ⊢
    obtain ⟨a, vs, e, f, q, r⟩ := h
    exact ⟨a, vs, e, (hF a f).1, (hF a f).2 _ q, Rs.mono hT hF xs vs r⟩
  | .dK ks xs, v, h => by
    unfold R at h ⊢
    obtain ⟨a, kv, e, f, q, ek, r⟩ := h
    exact ⟨a, kv, e, (hF a f).1, q.elim (fun q => .inl ((hF a f).2 _ q)) (fun ⟨o, q⟩ => .inr ⟨o, (hF a f).2 _ q⟩), ek, Rs.mono hT hF xs _ r⟩
  | .dT ks xs, v, h => by
    unfold R at h ⊢
    obtain ⟨a, kv, e, f, q, ek, r⟩ := h
    exact ⟨a, kv, e, (hF a f).1, q.elim (fun q => .inl ((hF a f).2 _ q)) (fun ⟨o, q⟩ => .inr ⟨o, (hF a f).2 _ q⟩), ek, Rs.mono hT hF xs _ r⟩
  | .bag, _, h => h
theorem Rs.mono (hT : ∀ a xs, H a = some (.tup xs) → H' a = some (.tup xs)) (hF : ∀ a, F a → F' a ∧ ∀ u, H a = some u → H' a = some u) : ∀ (ds : List D) (vs : List V), Rs H F β ds vs → Rs H' F' β ds vs
  | [], _, h => h
  | d :: ds, vs, h => by
    unfold Rs at h ⊢
    obtain ⟨v, r, e, h1, h2⟩ := h
    exact ⟨v, r, e, R.mono hT hF d v h1, Rs.mono hT hF ds r h2⟩
end
mutual
theorem R.flat_ : ∀ (d : D) (v : V), flat d = true → R H F β d v → R H F' β d v
  | .non, _, _, h => h
  | .bl _, _, _, h => h
  | .int _, _, _, h => h
  | .str _, _, _, h => h
  | .tup xs, v, hf, h => by
    unfold R at h ⊢
    obtain ⟨a, vs, e, q, r⟩ := h
    exact ⟨a, vs, e, q, Rs.flat_ xs vs (by simpa [flat] using hf) r⟩
  | .lst xs, v, hf, h => by simp [flat] at hf
  | .dK ks xs, v, hf, h => by simp [flat] at hf
  | .dT ks xs, v, hf, h => by simp [flat] at hf
  | .bag, _, _, h => h
theorem Rs.flat_ : ∀ (ds : List D) (vs : List V), flats ds = true → Rs H F β ds vs → Rs H F' β ds vs
  | [], _, _, h => h
  | d :: ds, vs, hf, h => by
    unfold Rs at h ⊢
    obtain ⟨v, r, e, h1, h2⟩ := h
    simp only [flats, Bool.and_eq_true] at hf
    exact ⟨v, r, e, R.flat_ d v hf.1 h1, Rs.flat_ ds r hf.2 h2⟩
end
theorem Rs.length : ∀ {ds : List D} {vs : List V}, Rs H F β ds vs → ds.length = vs.length
  | [], _, h => by unfold Rs at h; subst h; rfl
  | d :: ds, vs, h => by
    unfold Rs at h
    obtain ⟨v, r, e, h1, h2⟩ := h
    subst e
    simp [Rs.length h2]
theorem Rs.get : ∀ {ds : List D} {vs : List V} {i : Nat} {d : D}, Rs H F β ds vs → ds[i]? = some d → ∃ v, vs[i]? = some v ∧ R H F β d v
  | [], _, _, _, _, e => by simp at e
  | d :: ds, vs, 0, d', h, e => by
    unfold Rs at h
    obtain ⟨v, r, e1, h1, h2⟩ := h
    subst e1
    simp at e
    subst e
    exact ⟨v, rfl, h1⟩
  | d :: ds, vs, i + 1, d', h, e => by
    unfold Rs at h
    obtain ⟨v, r, e1, h1, h2⟩ := h
    subst e1
    obtain ⟨u, a, b⟩ := Rs.get (i := i) h2 (by simpa using e)
    exact ⟨u, by simpa using a, b⟩
theorem Rs.getV : ∀ {ds : List D} {vs : List V} {i : Nat} {v : V}, Rs H F β ds vs → vs[i]? = some v → ∃ d, ds[i]? = some d ∧ R H F β d v := fun {ds vs i v} h e => by
  have hl := h.length
  have hi : i < ds.length := by
    rw [hl]
    exact (List.getElem?_eq_some_iff.mp e).1
  obtain ⟨u, e2, r⟩ := h.get (List.getElem?_eq_getElem hi)
  rw [e] at e2
  cases e2
  exact ⟨_, List.getElem?_eq_getElem hi, r⟩
theorem Rs.append : ∀ {ds es : List D} {vs us : List V}, Rs H F β ds vs → Rs H F β es us → Rs H F β (ds ++ es) (vs ++ us)
  | [], _, _, _, h, h' => by unfold Rs at h; subst h; exact h'
  | d :: ds, es, vs, us, h, h' => by
    unfold Rs at h
    obtain ⟨v, r, e1, h1, h2⟩ := h
    subst e1
    show Rs H F β (d :: (ds ++ es)) (v :: (r ++ us))
    unfold Rs
    exact ⟨v, _, rfl, h1, h2.append h'⟩
theorem Rs.nil : Rs H F β [] [] := by unfold Rs; rfl
theorem Rs.cons {d : D} {ds : List D} {v : V} {vs : List V} (h1 : R H F β d v) (h2 : Rs H F β ds vs) : Rs H F β (d :: ds) (v :: vs) := by
  unfold Rs
  exact ⟨v, vs, rfl, h1, h2⟩
theorem Rs.one {d : D} {v : V} (h1 : R H F β d v) : Rs H F β [d] [v] := .cons h1 .nil
theorem Rs.uncons {d : D} {ds : List D} {vs : List V} (h : Rs H F β (d :: ds) vs) : ∃ v r, vs = v :: r ∧ R H F β d v ∧ Rs H F β ds r := by
  unfold Rs at h
  exact h
theorem Rs.take : ∀ {ds : List D} {vs : List V} (n : Nat), Rs H F β ds vs → Rs H F β (ds.take n) (vs.take n)
  | _, _, 0, _ => by simp; exact .nil
  | [], _, n + 1, h => by unfold Rs at h; subst h; simp; exact .nil
  | d :: ds, vs, n + 1, h => by
    obtain ⟨v, r, rfl, h1, h2⟩ := h.uncons
    simp only [List.take_succ_cons]
    exact .cons h1 (h2.take n)
theorem Rs.drop : ∀ {ds : List D} {vs : List V} (n : Nat), Rs H F β ds vs → Rs H F β (ds.drop n) (vs.drop n)
  | _, _, 0, h => by simpa using h
  | [], _, n + 1, h => by unfold Rs at h; subst h; simp; exact .nil
  | d :: ds, vs, n + 1, h => by
    obtain ⟨v, r, rfl, h1, h2⟩ := h.uncons
    simp only [List.drop_succ_cons]
    exact h2.drop n
theorem Rs.set : ∀ {ds : List D} {vs : List V} {d : D} {v : V} (n : Nat), Rs H F β ds vs → R H F β d v → Rs H F β (ds.set n d) (vs.set n v)
  | [], _, _, _, n, h, _ => by unfold Rs at h; subst h; simp; exact .nil
  | e :: ds, vs, d, v, 0, h, q => by
    obtain ⟨v', r, rfl, h1, h2⟩ := h.uncons
    simp only [List.set_cons_zero]
    exact .cons q h2
  | e :: ds, vs, d, v, n + 1, h, q => by
    obtain ⟨v', r, rfl, h1, h2⟩ := h.uncons
    simp only [List.set_cons_succ]
    exact .cons h1 (h2.set n q)
theorem Rs.reverse : ∀ {ds : List D} {vs : List V}, Rs H F β ds vs → Rs H F β ds.reverse vs.reverse
  | [], _, h => by unfold Rs at h; subst h; simp; exact .nil
  | e :: ds, vs, h => by
    obtain ⟨v', r, rfl, h1, h2⟩ := h.uncons
    simp only [List.reverse_cons]
    exact h2.reverse.append (.one h1)
end

/-! ### the state -/
abbrev Bag := Int × Int × Int
inductive Out (α : Type) where
  | bad
  | ok (a : α) (g : Bag)
  | exn (c : Nat) (p : D) (g : Bag)
abbrev M (α : Type) := Bag → Out α
namespace M
def ret {α : Type} (a : α) : M α := fun g => .ok a g
def bad {α : Type} : M α := fun _ => .bad
def bnd {α β : Type} (m : M α) (f : α → M β) : M β := fun g => match m g with
  | .bad => .bad
  | .ok a g' => f a g'
  | .exn c p g' => .exn c p g'
def ofO {α : Type} (o : Option α) : M α := fun g => match o with
  | none => .bad
  | some a => .ok a g
end M
abbrev Slots := List (Option D)
abbrev EX := Slots → M D

/-- what is fixed: the bag's address, what is wanted of an exception, the classes of exceptions -/
structure Fr where
  β : Option Addr
  W : WX
  xc : Nat → Option (Addr × Option Str)
def bagV (g : Bag) : List V := [.int g.1, .int g.2.1, .int g.2.2]
structure Ext (β : Option Addr) (F : Reg) (H : Hp) (F' : Reg) (H' : Hp) : Prop where
  mono : ∀ a, F a → F' a
  new : ∀ a, F' a → F a ∨ H a = none
  keep : ∀ a o, H a = some o → some a ≠ β → H' a = some o
  there : ∀ a, H' a = none → H a = none
structure BagOk (β : Option Addr) (F : Reg) (H : Hp) (g : Bag) : Prop where
  live : ∀ a, F a → H a ≠ none
  at_ : ∀ b, β = some b → ¬ F b ∧ H b = some (.lst (bagV g))
theorem Ext.refl (β : Option Addr) (F : Reg) (H : Hp) : Ext β F H F H := ⟨fun _ h => h, fun _ h => .inl h, fun _ _ h _ => h, fun _ h => h⟩
theorem Ext.trans {β : Option Addr} {F F1 F2 : Reg} {H H1 H2 : Hp} (a : Ext β F H F1 H1) (b : Ext β F1 H1 F2 H2) : Ext β F H F2 H2 :=
  ⟨fun x h => b.mono x (a.mono x h), fun x h => (b.new x h).elim (fun q => a.new x q) fun q => .inr (a.there x q), fun x o h n => b.keep x o (a.keep x o h n) n, fun x h => a.there x (b.there x h)⟩
/-- a new object beside -/
theorem Ext.put {β : Option Addr} {F : Reg} {H : Hp} {p : Addr} {o : HO} (hp : H p = none) : Ext β F H F (upd H p o) :=
  ⟨fun _ h => h, fun _ h => .inl h, fun a u h _ => by rw [upd_ne (ne_of_none h hp)]; exact h, fun a h => by
    by_cases e : a = p
    · rw [e]; exact hp
    · rw [upd_ne e] at h; exact h⟩
/-- .. which may be held on to -/
theorem Ext.putF {β : Option Addr} {F : Reg} {H : Hp} {p : Addr} {o : HO} (hp : H p = none) : Ext β F H (fun a => F a ∨ a = p) (upd H p o) :=
  ⟨fun _ h => .inl h, fun a h => h.elim .inl fun e => .inr (by rw [e]; exact hp), fun a u h _ => by rw [upd_ne (ne_of_none h hp)]; exact h, fun a h => by
    by_cases e : a = p
    · rw [e]; exact hp
    · rw [upd_ne e] at h; exact h⟩
section
variable {H H' : Hp} {F F' : Reg} {β : Option Addr} {g g' : Bag}
theorem BagOk.notup (b : BagOk β F H g) {a : Addr} {u : HO} (h : Rd H a u) (hu : ∀ xs, u ≠ .lst xs) : some a ≠ β := fun e => by
  obtain ⟨_, q⟩ := b.at_ a e.symm
  rcases h with h | ⟨o, h⟩
  · rw [q] at h
    cases h
    exact hu _ rfl
  · rw [q] at h
    cases h
theorem Ext.tupAt (b : BagOk β F H g) (e : Ext β F H F' H') {a : Addr} {xs : List V} (h : H a = some (.tup xs)) : H' a = some (.tup xs) := e.keep a _ h (b.notup (.inl h) fun _ z => nomatch z)
theorem BagOk.ne (b : BagOk β F H g) {a : Addr} (f : F a) : some a ≠ β := fun e => (b.at_ a e.symm).1 f
theorem R.ext (b : BagOk β F H g) (e : Ext β F H F' H') {d : D} {v : V} (h : R H F β d v) : R H' F' β d v :=
  R.mono (fun a xs => e.tupAt b) (fun a f => ⟨e.mono a f, fun u h => e.keep a u h (b.ne f)⟩) d v h
theorem Rs.ext (b : BagOk β F H g) (e : Ext β F H F' H') {d : List D} {v : List V} (h : Rs H F β d v) : Rs H' F' β d v :=
  Rs.mono (fun a xs => e.tupAt b) (fun a f => ⟨e.mono a f, fun u h => e.keep a u h (b.ne f)⟩) d v h
/-- the bag is as it was -/
theorem BagOk.ext (b : BagOk β F H g) (e : Ext β F H F' H') (h : ∀ x, β = some x → H' x = H x) (l : ∀ a, F' a → H' a ≠ none) : BagOk β F' H' g := ⟨l, fun x q => by
  obtain ⟨n, z⟩ := b.at_ x q
  refine ⟨fun f => ?_, (h x q).trans z⟩
  rcases e.new x f with f | f
  · exact n f
  · rw [z] at f; cases f⟩
end

/-- the slots, the heap, the bag -/
structure ER (fr : Fr) (F : Reg) (env : Slots) (σ : St) (H : Hp) (g : Bag) : Prop where
  len : env.length = σ.length
  val : ∀ (i : Nat) (d : D), env[i]? = some (some d) → ∃ v, σ[i]? = some (some v) ∧ R H F fr.β d v
  bag : BagOk fr.β F H g
theorem ER.ext {fr : Fr} {F F' : Reg} {env : Slots} {σ : St} {H H' : Hp} {g g' : Bag} (r : ER fr F env σ H g) (e : Ext fr.β F H F' H') (b : BagOk fr.β F' H' g') : ER fr F' env σ H' g' :=
  ⟨r.len, fun i d h => let ⟨v, a, q⟩ := r.val i d h; ⟨v, a, q.ext r.bag e⟩, b⟩
/-- how an exception lies: its class, its own dict -/
def ExcAt (fr : Fr) (F : Reg) (H : Hp) (c : Nat) (p : D) (cls : Value) (d : Option Addr) : Prop :=
  ∃ C n, fr.xc c = some (C, n) ∧ cls = .ref C ∧ match n with
    | none => d = none
    | some f => ∃ dd v, d = some dd ∧ H dd = some (.xd [(f, v)]) ∧ some dd ≠ fr.β ∧ R H F fr.β p v

/-- what is wanted behind an expression with the outcome o -/
def Got (fr : Fr) (F : Reg) (σ : St) (H : Hp) (Q : VK) : Out D → Prop
  | .bad => False
  | .ok d g' => ∀ v H' F', Ext fr.β F H F' H' → BagOk fr.β F' H' g' → R H' F' fr.β d v → Q v H'
  | .exn c p g' => ∀ H' F' cls dd, Ext fr.β F H F' H' → BagOk fr.β F' H' g' → ExcAt fr F' H' c p cls dd → fr.W cls dd σ H'
def tE (fr : Fr) (ρ : EX) : TE := fun σ H Q => ∃ env F g, ER fr F env σ H g ∧ Got fr F σ H Q (ρ env g)
def EV (X : Cx) (fr : Fr) (e : Expr) (ρ : EX) : Prop := PE X e (tE fr ρ)

/-- an expression runs -/
theorem EV.go {X : Cx} {fr : Fr} {e : Expr} {ρ : EX} (h : EV X fr e ρ) {pins : List (Addr × Obj)} {s : Shared} {σ : St} {H : Hp} {F : Reg} {env : Slots} {g : Bag} {P : Value → Shared → Prop} (I : Inv X pins σ H s) (r : ER fr F env σ H g)
    (hb : ρ env g ≠ .bad) (hx : ∀ c p g', ρ env g = .exn c p g' → ∀ H' F' cls dd, Ext fr.β F H F' H' → BagOk fr.β F' H' g' → ExcAt fr F' H' c p cls dd → fr.W cls dd σ H')
    (hk : ∀ d g', ρ env g = .ok d g' → ∀ u s' v H' F', Inv X pins σ H' s' → RelV v u → Ext fr.β F H F' H' → ER fr F' env σ H' g' → R H' F' fr.β d v → P u s') :
    wpAny (model X.prog X.w) X.A (eval e X.env) P X.xe s := by
  cases ho : ρ env g with
  | bad => exact absurd ho hb
  | ok d g' =>
    refine thn (PE.run h pins s σ H (fun v H' => ∃ F', Ext fr.β F H F' H' ∧ ER fr F' env σ H' g' ∧ R H' F' fr.β d v) I ⟨env, F, g, r, ?_⟩) fun u s' ⟨v, H', I', rv, F', ex, er, q⟩ => hk d g' ho u s' v H' F' I' rv ex er q
    rw [ho]
    exact fun v H' F' ex b q => ⟨F', ex, r.ext ex b, q⟩
  | exn c p g' =>
    refine thn (PE.run h pins s σ H (fun v H' => False) I ⟨env, F, g, r, ?_⟩) fun u s' ⟨v, H', I', rv, q⟩ => q.elim
    rw [ho]
    exact hx c p g' ho
/-- .. by a goal about its outcome -/
theorem EV.goM {X : Cx} {fr : Fr} {e : Expr} {ρ : EX} (h : EV X fr e ρ) {pins : List (Addr × Obj)} {s : Shared} {σ : St} {H : Hp} {F : Reg} {env : Slots} {g : Bag} {P : Value → Shared → Prop} {f : D → M D} {Q : VK} (I : Inv X pins σ H s) (r : ER fr F env σ H g)
    (hg : Got fr F σ H Q (M.bnd (ρ env) f g))
    (hk : ∀ d g' u s' v H' F', Inv X pins σ H' s' → RelV v u → Ext fr.β F H F' H' → ER fr F' env σ H' g' → R H' F' fr.β d v → Got fr F' σ H' Q (f d g') → P u s') :
    wpAny (model X.prog X.w) X.A (eval e X.env) P X.xe s := by
  refine h.go I r (fun z => ?_) (fun c p g' z => ?_) fun d g' z u s' v H' F' I' rv ex er q => hk d g' u s' v H' F' I' rv ex er q ?_
  · unfold M.bnd at hg
    rw [z] at hg
    exact hg
  · unfold M.bnd at hg
    rw [z] at hg
    exact hg
  · unfold M.bnd at hg
    rw [z] at hg
    have hg : Got fr F σ H Q (f d g') := hg
    cases ho : f d g' with
    | bad => rw [ho] at hg; exact hg.elim
    | ok d2 g2 =>
      rw [ho] at hg
      exact fun v2 H2 F2 ex2 b2 q2 => hg v2 H2 F2 (ex.trans ex2) b2 q2
    | exn c p g2 =>
      rw [ho] at hg
      exact fun H2 F2 cls dd ex2 b2 q2 => hg H2 F2 cls dd (ex.trans ex2) b2 q2
end VS

/-! VS2: the rules of expressions. -/
namespace VS
open PySem PySem.Spec L2
open PyProof.Rows hiding St

/-! ### what an operation hands back -/
def Hit (fr : Fr) (F : Reg) (H : Hp) (g : Bag) (d : D) : VK := fun v H' => ∃ F', Ext fr.β F H F' H' ∧ BagOk fr.β F' H' g ∧ R H' F' fr.β d v
section
variable {fr : Fr} {F : Reg} {H : Hp} {g : Bag}
theorem BagOk.put (b : BagOk fr.β F H g) {p : Addr} {o : HO} (hp : H p = none) : BagOk fr.β F (upd H p o) g := ⟨fun a f z => b.live a f ((Ext.put (β := fr.β) (F := F) (o := o) hp).there a z), fun x q => ⟨(b.at_ x q).1, by rw [upd_ne (ne_of_none (b.at_ x q).2 hp)]; exact (b.at_ x q).2⟩⟩
theorem upd_there {H : Hp} {p : Addr} {o : HO} (z : upd H p o p = none) : False := by
  rw [upd_same] at z
  cases z
theorem BagOk.putF (b : BagOk fr.β F H g) {p : Addr} {o : HO} (hp : H p = none) : BagOk fr.β (fun a => F a ∨ a = p) (upd H p o) g := ⟨fun a f z => f.elim (fun f => b.live a f ((Ext.put (β := fr.β) (F := F) (o := o) hp).there a z)) fun e => upd_there (H := H) (p := p) (o := o) (by rw [e] at z; exact z), fun x q =>
  ⟨fun z => z.elim (b.at_ x q).1 (ne_of_none (b.at_ x q).2 hp), by rw [upd_ne (ne_of_none (b.at_ x q).2 hp)]; exact (b.at_ x q).2⟩⟩
theorem hit_here (b : BagOk fr.β F H g) {d : D} {v : V} (h : R H F fr.β d v) : Hit fr F H g d v H := ⟨F, Ext.refl _ _ _, b, h⟩
theorem hit_tup (b : BagOk fr.β F H g) {ds : List D} {vs : List V} (h : Rs H F fr.β ds vs) {p : Addr} (hp : H p = none) : Hit fr F H g (.tup ds) (.ref p) (upd H p (.tup vs)) :=
  ⟨F, Ext.put hp, b.put hp, by unfold R; exact ⟨p, vs, rfl, upd_same, h.ext b (Ext.put hp)⟩⟩
theorem hit_lst (b : BagOk fr.β F H g) {ds : List D} {vs : List V} (h : Rs H F fr.β ds vs) {p : Addr} (hp : H p = none) : Hit fr F H g (.lst ds) (.ref p) (upd H p (.lst vs)) :=
  ⟨_, Ext.putF hp, b.putF hp, by unfold R; exact ⟨p, vs, rfl, .inr rfl, upd_same, h.ext b (Ext.putF hp)⟩⟩
theorem got_hit {σ : St} {Q : VK} {d : D} (h : Got fr F σ H Q (.ok d g)) {v : V} {H' : Hp} (q : Hit fr F H g d v H') : Q v H' :=
  let ⟨F', e, b, r⟩ := q
  h v H' F' e b r
end
theorem ofO_ok {α : Type} {o : Option α} {fr : Fr} {F : Reg} {σ : St} {H : Hp} {Q : VK} {g : Bag} {f : α → D} (h : Got fr F σ H Q ((M.bnd (M.ofO o) fun a => M.ret (f a)) g)) : ∃ a, o = some a ∧ Got fr F σ H Q (.ok (f a) g) := by
  cases o with
  | none => exact (show False from h).elim
  | some a => exact ⟨a, rfl, h⟩
theorem ofO_got {o : Option D} {fr : Fr} {F : Reg} {σ : St} {H : Hp} {Q : VK} {g : Bag} (h : Got fr F σ H Q (M.ofO o g)) : ∃ a, o = some a ∧ Got fr F σ H Q (.ok a g) := by
  cases o with
  | none => exact (show False from h).elim
  | some a => exact ⟨a, rfl, h⟩
theorem ep_imp {X : Cx} {pins : List (Addr × Obj)} {σ : St} {Q Q' : VK} {u : Value} {s : Shared} (h : EP X pins σ Q u s) (k : ∀ v H, Q v H → Q' v H) : EP X pins σ Q' u s :=
  let ⟨v, H, I, r, q⟩ := h
  ⟨v, H, I, r, k v H q⟩

section
variable {X : Cx} {fr : Fr} {pos : Pos}
/-! ### leaves -/
def varE (i : Nat) : EX := fun env => M.ofO (env[i]?.bind id)
theorem ev_of (e : Expr) (ρ : EX) (t : TE) (h : PE X e t) (k : ∀ σ H Q env F g, ER fr F env σ H g → Got fr F σ H Q (ρ env g) → t σ H Q) : EV X fr e ρ := by
  refine ⟨fun pins s σ H Q I ⟨env, F, g, r, hg⟩ => h.run pins s σ H Q I (k σ H Q env F g r hg)⟩
theorem ev_var {e : Expr} (i : Nat) (h : PE X e (tVar i)) : EV X fr e (varE i) := by
  refine ev_of _ _ _ h fun σ H Q env F g r hg => ?_
  unfold varE at hg
  obtain ⟨d, e1, hg⟩ := ofO_got hg
  have e2 : env[i]? = some (some d) := by
    cases q : env[i]? with
    | none => rw [q] at e1; cases e1
    | some o => rw [q] at e1; exact congrArg some e1
  obtain ⟨v, e3, q⟩ := r.val i d e2
  exact ⟨v, e3, got_hit hg (hit_here r.bag q)⟩
def cE (d : D) : EX := fun _ => M.ret d
theorem ev_const {e : Expr} {d : D} {v : V} (h : PE X e (tC v)) (hr : ∀ H F β, R H F β d v) : EV X fr e (cE d) := by
  refine ev_of _ _ _ h fun σ H Q env F g r hg => ?_
  have hg : Got fr F σ H Q (.ok d g) := hg
  exact got_hit hg (hit_here r.bag (hr _ _ _))
theorem ev_int {i j} : EV X fr (.Constant (.int i) j pos) (cE (.int i)) := ev_const pe_int fun _ _ _ => by unfold R; rfl
theorem ev_bl {b j} : EV X fr (.Constant (.bool b) j pos) (cE (.bl b)) := ev_const pe_bl fun _ _ _ => by unfold R; rfl
theorem ev_non {j} : EV X fr (.Constant .none j pos) (cE .non) := ev_const pe_non fun _ _ _ => by unfold R; rfl
theorem ev_str {x j} : EV X fr (.Constant (.str x) j pos) (cE (.str x)) := ev_const pe_str fun _ _ _ => by unfold R; rfl
theorem ev_gint {x : Str} {i : Int} {t : Tok} (hg : Gl X x) (hm : X.mg x = some (.int i t)) (hd : (x == ("__debug__" : Str)) = false := by decide) : EV X fr (.Name x pos) (cE (.int i)) := ev_const (v := .int i) (pe_glob hg hm ⟨_, rfl⟩ hd) fun _ _ _ => by unfold R; rfl

/-! ### operations on values -/
structure Op2 (X : Cx) (fr : Fr) (f : Value → Value → Sem Value) (q : D → D → Option D) : Prop where
  at_ : ∀ H F g x y d1 d2 d, BagOk fr.β F H g → R H F fr.β d1 x → R H F fr.β d2 y → q d1 d2 = some d → ∃ r, OpR X f r ∧ r x y H (Hit fr F H g d)
structure Op1 (X : Cx) (fr : Fr) (f : Value → Sem Value) (q : D → Option D) : Prop where
  at_ : ∀ H F g x d1 d, BagOk fr.β F H g → R H F fr.β d1 x → q d1 = some d → ∃ r, UnR X f r ∧ r x H (Hit fr F H g d)
def bin2 (q : D → D → Option D) (a b : EX) : EX := fun env => M.bnd (a env) fun x => M.bnd (b env) fun y => M.ofO (q x y)
def un1 (q : D → Option D) (a : EX) : EX := fun env => M.bnd (a env) fun x => M.ofO (q x)
variable {a b c : Expr} {ρa ρb ρc : EX}
theorem bin_go {f : Value → Value → Sem Value} {q : D → D → Option D} (ho : Op2 X fr f q) (ha : EV X fr a ρa) (hb : EV X fr b ρb) {pins : List (Addr × Obj)} {s : Shared} {σ : St} {H : Hp} {Q : VK} {env : Slots} {F : Reg} {g : Bag}
    (I : Inv X pins σ H s) (r : ER fr F env σ H g) (hg : Got fr F σ H Q (bin2 q ρa ρb env g)) :
    wpAny (model X.prog X.w) X.A (eval a X.env) (fun v s₁ => wpAny (model X.prog X.w) X.A (eval b X.env) (fun u s₂ => wpAny (model X.prog X.w) X.A (f v u) (EP X pins σ Q) X.xe s₂) X.xe s₁) X.xe s := by
  refine ha.goM I r hg fun d1 g1 u1 s1 v1 H1 F1 I1 rv1 ex1 er1 q1 hg1 => hb.goM I1 er1 hg1 fun d2 g2 u2 s2 v2 H2 F2 I2 rv2 ex2 er2 q2 hg2 => ?_
  obtain ⟨d, ed, hg3⟩ := ofO_got hg2
  obtain ⟨r', hr, hq⟩ := ho.at_ H2 F2 g2 v1 v2 d1 d2 d er2.bag (q1.ext er1.bag ex2) q2 ed
  exact thn (hr pins s2 σ H2 v1 v2 u1 u2 _ I2 rv1 rv2 hq) fun u s' e => ep_imp e fun v H' z => got_hit hg3 z
theorem ev_bin {op : Operator} {q : D → D → Option D} (ho : Op2 X fr (binaryOp op) q) (ha : EV X fr a ρa) (hb : EV X fr b ρb) : EV X fr (.BinOp a op b pos) (bin2 q ρa ρb) :=
  ⟨fun pins s σ H Q I ⟨env, F, g, r, hg⟩ => wpAny_BinOp (bin_go ho ha hb I r hg)⟩
theorem ev_un {op : UnaryOp} {q : D → Option D} (ho : Op1 X fr (unaryOp op) q) (ha : EV X fr a ρa) : EV X fr (.UnaryOp op a pos) (un1 q ρa) := by
  refine ⟨fun pins s σ H Q I ⟨env, F, g, r, hg⟩ => UnaryOp_ (ha.goM I r hg fun d1 g1 u1 s1 v1 H1 F1 I1 rv1 ex1 er1 q1 hg1 => ?_)⟩
  obtain ⟨d, ed, hg3⟩ := ofO_got hg1
  obtain ⟨r', hr, hq⟩ := ho.at_ H1 F1 g1 v1 d1 d er1.bag q1 ed
  exact thn (hr pins s1 σ H1 v1 u1 _ I1 rv1 hq) fun u s' e => ep_imp e fun v H' z => got_hit hg3 z
theorem ev_cmp {op : CmpOp} {q : D → D → Option D} (ho : Op2 X fr (compareOp op) q) (ha : EV X fr a ρa) (hb : EV X fr b ρb) (hm : behindInMarks op b = false) : EV X fr (.Compare a [op] [b] pos) (bin2 q ρa ρb) :=
  ⟨fun pins s σ H Q I ⟨env, F, g, r, hg⟩ => wpAny_Compare1 (bin_go ho ha hb I r hg) hm⟩

/-! ### tests -/
abbrev TX := Slots → M Bool
def GotB (fr : Fr) (F : Reg) (σ : St) (H : Hp) (Q : Bool → Hp → Prop) : Out Bool → Prop
  | .bad => False
  | .ok d g' => ∀ H' F', Ext fr.β F H F' H' → BagOk fr.β F' H' g' → Q d H'
  | .exn c p g' => ∀ H' F' cls dd, Ext fr.β F H F' H' → BagOk fr.β F' H' g' → ExcAt fr F' H' c p cls dd → fr.W cls dd σ H'
def tT (fr : Fr) (τ : TX) : TT := fun σ H Q => ∃ env F g, ER fr F env σ H g ∧ GotB fr F σ H Q (τ env g)
def TV (X : Cx) (fr : Fr) (e : Expr) (τ : TX) : Prop := PT X e (tT fr τ)
def TW (X : Cx) (fr : Fr) (e : Expr) (τ : TX) : Prop := PW X e (tT fr τ)
/-- a test runs, to any end -/
theorem TV.goM {e : Expr} {τ : TX} (h : TV X fr e τ) {pins : List (Addr × Obj)} {s : Shared} {σ : St} {H : Hp} {F : Reg} {env : Slots} {g : Bag} {P : Bool → Shared → Prop} (I : Inv X pins σ H s) (r : ER fr F env σ H g)
    (hb : τ env g ≠ .bad) (hx : ∀ c p g', τ env g = .exn c p g' → ∀ H' F' cls dd, Ext fr.β F H F' H' → BagOk fr.β F' H' g' → ExcAt fr F' H' c p cls dd → fr.W cls dd σ H')
    (hk : ∀ d g' s' H' F', τ env g = .ok d g' → Inv X pins σ H' s' → Ext fr.β F H F' H' → ER fr F' env σ H' g' → P d s') :
    wpAny (model X.prog X.w) X.A (isTrue e X.env (eval e X.env)) P X.xe s := by
  cases ho : τ env g with
  | bad => exact absurd ho hb
  | ok d g' =>
    refine thn (PT.run h pins s σ H (fun b H' => b = d ∧ ∃ F', Ext fr.β F H F' H' ∧ ER fr F' env σ H' g') I ⟨env, F, g, r, ?_⟩) fun b s' ⟨H', I', eb, F', ex, er⟩ => by
      subst eb
      exact hk _ g' s' H' F' ho I' ex er
    rw [ho]
    exact fun H' F' ex b => ⟨rfl, F', ex, r.ext ex b⟩
  | exn c p g' =>
    refine thn (PT.run h pins s σ H (fun b H' => False) I ⟨env, F, g, r, ?_⟩) fun b s' ⟨H', I', q⟩ => q.elim
    rw [ho]
    exact hx c p g' ho
/-- what the test's outcome asks, from what the whole asks -/
theorem gotB_bad {F : Reg} {σ : St} {H : Hp} {Q : Bool → Hp → Prop} {m : M Bool} {f : Bool → M Bool} {g : Bag} (h : GotB fr F σ H Q (M.bnd m f g)) : m g ≠ .bad := fun z => by
  unfold M.bnd at h
  rw [z] at h
  exact h
theorem gotB_exn {F : Reg} {σ : St} {H : Hp} {Q : Bool → Hp → Prop} {m : M Bool} {f : Bool → M Bool} {g : Bag} (h : GotB fr F σ H Q (M.bnd m f g)) : ∀ c p g', m g = .exn c p g' → ∀ H' F' cls dd, Ext fr.β F H F' H' → BagOk fr.β F' H' g' → ExcAt fr F' H' c p cls dd → fr.W cls dd σ H' := fun c p g' z => by
  unfold M.bnd at h
  rw [z] at h
  exact h
theorem gotB_ok {F F' : Reg} {σ : St} {H H' : Hp} {Q : Bool → Hp → Prop} {m : M Bool} {f : Bool → M Bool} {g g' : Bag} {d : Bool} (h : GotB fr F σ H Q (M.bnd m f g)) (z : m g = .ok d g') (ex : Ext fr.β F H F' H') : GotB fr F' σ H' Q (f d g') := by
  unfold M.bnd at h
  rw [z] at h
  have h : GotB fr F σ H Q (f d g') := h
  cases ho : f d g' with
  | bad => rw [ho] at h; exact h.elim
  | ok d2 g2 => rw [ho] at h; exact fun H2 F2 e2 b2 => h H2 F2 (ex.trans e2) b2
  | exn c p g2 => rw [ho] at h; exact fun H2 F2 cls dd e2 b2 => h H2 F2 cls dd (ex.trans e2) b2
def notT (τ : TX) : TX := fun env => M.bnd (τ env) fun b => M.ret (!b)
def andT (τ υ : TX) : TX := fun env => M.bnd (τ env) fun b => if b then υ env else M.ret false
def orT (τ υ : TX) : TX := fun env => M.bnd (τ env) fun b => if b then M.ret true else υ env
theorem tv_of (e : Expr) (τ : TX) (t : TT) (h : PT X e t) (k : ∀ σ H Q env F g, ER fr F env σ H g → GotB fr F σ H Q (τ env g) → t σ H Q) : TV X fr e τ :=
  ⟨fun pins s σ H Q I ⟨env, F, g, r, hg⟩ => h.run pins s σ H Q I (k σ H Q env F g r hg)⟩
/-- an outcome wanted, for the parts of a test: by the part's own reading -/
theorem tT_seq {τ : TX} {f : Bool → M Bool} {σ : St} {H : Hp} {Q Q' : Bool → Hp → Prop} {env : Slots} {F : Reg} {g : Bag} (r : ER fr F env σ H g) (hg : GotB fr F σ H Q (M.bnd (τ env) f g))
    (k : ∀ d g' H' F', τ env g = .ok d g' → Ext fr.β F H F' H' → ER fr F' env σ H' g' → GotB fr F' σ H' Q (f d g') → Q' d H') : tT fr τ σ H Q' := by
  refine ⟨env, F, g, r, ?_⟩
  cases ho : τ env g with
  | bad => exact gotB_bad hg ho
  | ok d g' => exact fun H' F' ex b => k d g' H' F' ho ex (r.ext ex b) (gotB_ok hg ho ex)
  | exn c p g' => exact gotB_exn hg c p g' ho
theorem tv_not {τ : TX} (h : TV X fr a τ) : TV X fr (.UnaryOp .Not a pos) (notT τ) :=
  tv_of _ _ _ (pt_not h) fun σ H Q env F g r hg => tT_seq r hg fun d g' H' F' ho ex er q => q H' F' (Ext.refl _ _ _) er.bag
theorem tw_and1 {τ : TX} (h : TV X fr a τ) : TW X fr (.BoolOp .And [a] pos) τ := pw_and1 h
theorem tw_or1 {τ : TX} (h : TV X fr a τ) : TW X fr (.BoolOp .Or [a] pos) τ := pw_or1 h
variable {rest : List Expr}
theorem tw_and {τ υ : TX} (h : TV X fr a τ) (h2 : TW X fr (.BoolOp .And (b :: rest) pos) υ) : TW X fr (.BoolOp .And (a :: b :: rest) pos) (andT τ υ) := by
  refine ⟨fun wh pins s σ H Q I ⟨env, F, g, r, hg⟩ => (pw_and h h2).run wh pins s σ H Q I ?_⟩
  refine tT_seq r hg fun d g' H' F' ho ex er q => ?_
  cases d with
  | true => exact iteT ⟨env, F', g', er, q⟩
  | false => exact iteF (q H' F' (Ext.refl _ _ _) er.bag)
theorem tw_or {τ υ : TX} (h : TV X fr a τ) (h2 : TW X fr (.BoolOp .Or (b :: rest) pos) υ) : TW X fr (.BoolOp .Or (a :: b :: rest) pos) (orT τ υ) := by
  refine ⟨fun wh pins s σ H Q I ⟨env, F, g, r, hg⟩ => (pw_or h h2).run wh pins s σ H Q I ?_⟩
  refine tT_seq r hg fun d g' H' F' ho ex er q => ?_
  cases d with
  | true => exact iteT (q H' F' (Ext.refl _ _ _) er.bag)
  | false => exact iteF ⟨env, F', g', er, q⟩
theorem TW.tv {e : Expr} {τ : TX} (h : TW X fr e τ) : TV X fr e τ := PW.pt h
/-- a value as a test -/
def asB : D → Option Bool
  | .bl b => some b
  | _ => none
def valT (ρ : EX) : TX := fun env => M.bnd (ρ env) fun d => M.ofO (asB d)
theorem ofOB_got {o : Option Bool} {F : Reg} {σ : St} {H : Hp} {Q : Bool → Hp → Prop} {g : Bag} (h : GotB fr F σ H Q (M.ofO o g)) : ∃ a, o = some a ∧ GotB fr F σ H Q (.ok a g) := by
  cases o with
  | none => exact (show False from h).elim
  | some a => exact ⟨a, rfl, h⟩
theorem got_valT {ρ : EX} {F : Reg} {σ : St} {H : Hp} {Q : Bool → Hp → Prop} {env : Slots} {g : Bag} {f : D → M Bool} (r : ER fr F env σ H g) (hg : GotB fr F σ H Q (M.bnd (ρ env) f g))
    {Q' : VK} (k : ∀ d g' H' F' v, ρ env g = .ok d g' → Ext fr.β F H F' H' → ER fr F' env σ H' g' → R H' F' fr.β d v → GotB fr F' σ H' Q (f d g') → Q' v H') : tE fr ρ σ H Q' := by
  refine ⟨env, F, g, r, ?_⟩
  unfold M.bnd at hg
  cases ho : ρ env g with
  | bad => rw [ho] at hg; exact hg
  | exn c p g' => rw [ho] at hg; exact hg
  | ok d g' =>
    rw [ho] at hg
    have hg : GotB fr F σ H Q (f d g') := hg
    intro v H' F' ex b q
    refine k d g' H' F' v ho ex (r.ext ex b) q ?_
    cases h2 : f d g' with
    | bad => rw [h2] at hg; exact hg.elim
    | ok d2 g2 => rw [h2] at hg; exact fun H2 F2 e2 b2 => hg H2 F2 (ex.trans e2) b2
    | exn c p g2 => rw [h2] at hg; exact fun H2 F2 cls dd e2 b2 => hg H2 F2 cls dd (ex.trans e2) b2
theorem tv_val {e : Expr} {ρ : EX} (h : EV X fr e ρ) (he : ∀ whole, isTrue e X.env whole = (do let v ← whole; standAt e.pos; holding [v] (truthy v)) := by intro _; rfl) : TV X fr e (valT ρ) := by
  refine tv_of _ _ _ (pt_val h he) fun σ H Q env F g r hg => ?_
  refine got_valT r hg fun d g' H' F' v ho ex er q hq => ?_
  obtain ⟨b, eb, hq⟩ := ofOB_got hq
  cases d with
  | bl b' =>
    cases eb
    unfold R at q
    exact ⟨_, q, hq H' F' (Ext.refl _ _ _) er.bag⟩
  | _ => cases eb
theorem tv_cmp {op : CmpOp} {q : D → D → Option D} (ho : Op2 X fr (compareOp op) q) (ha : EV X fr a ρa) (hb : EV X fr b ρb) (hm : behindInMarks op b = false) : TV X fr (.Compare a [op] [b] pos) (valT (bin2 q ρa ρb)) := by
  refine ⟨fun pins s σ H Q I ⟨env, F, g, r, hg⟩ => ?_⟩
  -- the value, then its truth
  have key : ∃ Q' : VK, Got fr F σ H Q' (bin2 q ρa ρb env g) ∧ ∀ v H', Q' v H' → ∃ k, v = .bl k ∧ Q k H' := by
    unfold valT M.bnd at hg
    cases ho : bin2 q ρa ρb env g with
    | bad => rw [ho] at hg; exact (show False from hg).elim
    | exn c p g' => rw [ho] at hg; exact ⟨fun _ _ => False, hg, fun _ _ z => z.elim⟩
    | ok d g' =>
      rw [ho] at hg
      have hg : GotB fr F σ H Q (M.ofO (asB d) g') := hg
      obtain ⟨k, ek, hg⟩ := ofOB_got hg
      cases d with
      | bl b' =>
        have e : k = b' := (Option.some.inj ek).symm
        subst e
        exact ⟨fun v H' => v = .bl k ∧ Q k H', fun v H' F' ex bk q => ⟨by unfold R at q; exact q, hg H' F' ex bk⟩, fun v H' z => ⟨k, z⟩⟩
      | _ => cases ek
  obtain ⟨Q', g1, g2⟩ := key
  refine wpAny_isTrue_Compare1 (thn (bin_go ho ha hb I r g1) fun v s1 h1 => thn h1 fun u s2 h2 => thn h2 fun c s3 ⟨x, H1, I1, r1, q1⟩ => ?_) hm
  obtain ⟨k, e, q2⟩ := g2 x H1 q1
  subst e
  cases r1
  exact wpAny_truthy_bool ⟨H1, I1, q2⟩
/-- a if t else b -/
def ifE (τ : TX) (a b : EX) : EX := fun env => M.bnd (τ env) fun c => if c then a env else b env
theorem got_ifE {τ : TX} {F : Reg} {σ : St} {H : Hp} {Q : VK} {env : Slots} {g : Bag} {f : Bool → M D} (r : ER fr F env σ H g) (hg : Got fr F σ H Q (M.bnd (τ env) f g))
    {Q' : Bool → Hp → Prop} (k : ∀ d g' H' F', τ env g = .ok d g' → Ext fr.β F H F' H' → ER fr F' env σ H' g' → Got fr F' σ H' Q (f d g') → Q' d H') : tT fr τ σ H Q' := by
  refine ⟨env, F, g, r, ?_⟩
  unfold M.bnd at hg
  cases ho : τ env g with
  | bad => rw [ho] at hg; exact hg
  | exn c p g' => rw [ho] at hg; exact hg
  | ok d g' =>
    rw [ho] at hg
    have hg : Got fr F σ H Q (f d g') := hg
    intro H' F' ex b
    refine k d g' H' F' ho ex (r.ext ex b) ?_
    cases h2 : f d g' with
    | bad => rw [h2] at hg; exact hg.elim
    | ok d2 g2 => rw [h2] at hg; exact fun v H2 F2 e2 b2 => hg v H2 F2 (ex.trans e2) b2
    | exn c p g2 => rw [h2] at hg; exact fun H2 F2 cls dd e2 b2 => hg H2 F2 cls dd (ex.trans e2) b2
theorem ev_if {τ : TX} (hc : TV X fr c τ) (ha : EV X fr a ρa) (hb : EV X fr b ρb) : EV X fr (.IfExp c a b pos) (ifE τ ρa ρb) := by
  refine ev_of _ _ _ (pe_ifExp hc ha hb) fun σ H Q env F g r hg => ?_
  refine got_ifE r hg fun d g' H' F' ho ex er q => ?_
  cases d with
  | true => exact iteT ⟨env, F', g', er, q⟩
  | false => exact iteF ⟨env, F', g', er, q⟩
/-- and, or, not as values, of truths -/
def andE (a b : EX) : EX := fun env => M.bnd (a env) fun x => match x with
  | .bl true => b env
  | .bl false => M.ret (.bl false)
  | _ => M.bad
def orE (a b : EX) : EX := fun env => M.bnd (a env) fun x => match x with
  | .bl false => b env
  | .bl true => M.ret (.bl true)
  | _ => M.bad
def notE (a : EX) : EX := fun env => M.bnd (a env) fun x => match x with
  | .bl k => M.ret (.bl (!k))
  | _ => M.bad
theorem got_seq {ρ : EX} {F : Reg} {σ : St} {H : Hp} {Q : VK} {env : Slots} {g : Bag} {f : D → M D} (r : ER fr F env σ H g) (hg : Got fr F σ H Q (M.bnd (ρ env) f g))
    {Q' : VK} (k : ∀ d g' H' F' v, ρ env g = .ok d g' → Ext fr.β F H F' H' → ER fr F' env σ H' g' → R H' F' fr.β d v → Got fr F' σ H' Q (f d g') → Q' v H') : tE fr ρ σ H Q' := by
  refine ⟨env, F, g, r, ?_⟩
  unfold M.bnd at hg
  cases ho : ρ env g with
  | bad => rw [ho] at hg; exact hg
  | exn c p g' => rw [ho] at hg; exact hg
  | ok d g' =>
    rw [ho] at hg
    have hg : Got fr F σ H Q (f d g') := hg
    intro v H' F' ex b q
    refine k d g' H' F' v ho ex (r.ext ex b) q ?_
    cases h2 : f d g' with
    | bad => rw [h2] at hg; exact hg.elim
    | ok d2 g2 => rw [h2] at hg; exact fun v H2 F2 e2 b2 => hg v H2 F2 (ex.trans e2) b2
    | exn c p g2 => rw [h2] at hg; exact fun H2 F2 cls dd e2 b2 => hg H2 F2 cls dd (ex.trans e2) b2
theorem ev_one {op} (h : EV X fr a ρa) : EV X fr (.BoolOp op [a] pos) ρa := pe_one h
theorem ev_and (ha : EV X fr a ρa) (hb : EV X fr (.BoolOp .And (b :: rest) pos) ρb) : EV X fr (.BoolOp .And (a :: b :: rest) pos) (andE ρa ρb) := by
  refine ev_of _ _ _ (pe_and ha hb) fun σ H Q env F g r hg => ?_
  refine got_seq r hg fun d g' H' F' v ho ex er q hq => ?_
  cases d with
  | bl k =>
    unfold R at q
    subst q
    refine ⟨k, rfl, ?_⟩
    cases k with
    | true => exact iteT ⟨env, F', g', er, hq⟩
    | false => exact iteF (got_hit hq (hit_here er.bag (by unfold R; rfl)))
  | _ => exact (show False from hq).elim
theorem ev_or (ha : EV X fr a ρa) (hb : EV X fr (.BoolOp .Or (b :: rest) pos) ρb) : EV X fr (.BoolOp .Or (a :: b :: rest) pos) (orE ρa ρb) := by
  refine ev_of _ _ _ (pe_or ha hb) fun σ H Q env F g r hg => ?_
  refine got_seq r hg fun d g' H' F' v ho ex er q hq => ?_
  cases d with
  | bl k =>
    unfold R at q
    subst q
    refine ⟨k, rfl, ?_⟩
    cases k with
    | true => exact iteT (got_hit hq (hit_here er.bag (by unfold R; rfl)))
    | false => exact iteF ⟨env, F', g', er, hq⟩
  | _ => exact (show False from hq).elim
theorem ev_not (ha : EV X fr a ρa) : EV X fr (.UnaryOp .Not a pos) (notE ρa) := by
  refine ev_of _ _ _ (pe_not ha) fun σ H Q env F g r hg => ?_
  refine got_seq r hg fun d g' H' F' v ho ex er q hq => ?_
  cases d with
  | bl k =>
    unfold R at q
    subst q
    exact ⟨k, rfl, got_hit hq (hit_here er.bag (by unfold R; rfl))⟩
  | _ => exact (show False from hq).elim
end
end VS

/-! VS3: arguments, displays, calls, subscripts, operations on values. -/
namespace VS
open PySem PySem.Spec L2
open PyProof.Rows hiding St

theorem M.assoc {α β γ : Type} (m : M α) (f : α → M β) (h : β → M γ) : M.bnd (M.bnd m f) h = M.bnd m (fun a => M.bnd (f a) h) := by
  funext g
  unfold M.bnd
  cases m g <;> rfl
/-! ### argument lists -/
abbrev AX := Slots → M (List D)
def GotL (fr : Fr) (F : Reg) (σ : St) (H : Hp) (Q : List V → Hp → Prop) : Out (List D) → Prop
  | .bad => False
  | .ok d g' => ∀ v H' F', Ext fr.β F H F' H' → BagOk fr.β F' H' g' → Rs H' F' fr.β d v → Q v H'
  | .exn c p g' => ∀ H' F' cls dd, Ext fr.β F H F' H' → BagOk fr.β F' H' g' → ExcAt fr F' H' c p cls dd → fr.W cls dd σ H'
def tA (fr : Fr) (ρ : AX) : TA := fun σ H Q => ∃ env F g, ER fr F env σ H g ∧ GotL fr F σ H Q (ρ env g)
def AV (X : Cx) (fr : Fr) (es : List Expr) (ρ : AX) : Prop := PA X es (tA fr ρ)
def nilA : AX := fun _ => M.ret []
def consA (a : EX) (b : AX) : AX := fun env => M.bnd (a env) fun x => M.bnd (b env) fun xs => M.ret (x :: xs)
section
variable {X : Cx} {fr : Fr} {pos : Pos} {e : Expr} {es : List Expr} {ρ : EX} {ρs : AX}
theorem got_seqL {F : Reg} {σ : St} {H : Hp} {Q : List V → Hp → Prop} {env : Slots} {g : Bag} {f : D → M (List D)} (r : ER fr F env σ H g) (hg : GotL fr F σ H Q (M.bnd (ρ env) f g))
    {Q' : VK} (k : ∀ d g' H' F' v, ρ env g = .ok d g' → Ext fr.β F H F' H' → ER fr F' env σ H' g' → R H' F' fr.β d v → GotL fr F' σ H' Q (f d g') → Q' v H') : tE fr ρ σ H Q' := by
  refine ⟨env, F, g, r, ?_⟩
  unfold M.bnd at hg
  cases ho : ρ env g with
  | bad => rw [ho] at hg; exact hg
  | exn c p g' => rw [ho] at hg; exact hg
  | ok d g' =>
    rw [ho] at hg
    have hg : GotL fr F σ H Q (f d g') := hg
    intro v H' F' ex b q
    refine k d g' H' F' v ho ex (r.ext ex b) q ?_
    cases h2 : f d g' with
    | bad => rw [h2] at hg; exact hg.elim
    | ok d2 g2 => rw [h2] at hg; exact fun v H2 F2 e2 b2 => hg v H2 F2 (ex.trans e2) b2
    | exn c p g2 => rw [h2] at hg; exact fun H2 F2 cls dd e2 b2 => hg H2 F2 cls dd (ex.trans e2) b2
theorem gotLL {F : Reg} {σ : St} {H : Hp} {Q : List V → Hp → Prop} {env : Slots} {g : Bag} {f : List D → M (List D)} (r : ER fr F env σ H g) (hg : GotL fr F σ H Q (M.bnd (ρs env) f g))
    {Q' : List V → Hp → Prop} (k : ∀ d g' H' F' v, ρs env g = .ok d g' → Ext fr.β F H F' H' → ER fr F' env σ H' g' → Rs H' F' fr.β d v → GotL fr F' σ H' Q (f d g') → Q' v H') : tA fr ρs σ H Q' := by
  refine ⟨env, F, g, r, ?_⟩
  unfold M.bnd at hg
  cases ho : ρs env g with
  | bad => rw [ho] at hg; exact hg
  | exn c p g' => rw [ho] at hg; exact hg
  | ok d g' =>
    rw [ho] at hg
    have hg : GotL fr F σ H Q (f d g') := hg
    intro v H' F' ex b q
    refine k d g' H' F' v ho ex (r.ext ex b) q ?_
    cases h2 : f d g' with
    | bad => rw [h2] at hg; exact hg.elim
    | ok d2 g2 => rw [h2] at hg; exact fun v H2 F2 e2 b2 => hg v H2 F2 (ex.trans e2) b2
    | exn c p g2 => rw [h2] at hg; exact fun H2 F2 cls dd e2 b2 => hg H2 F2 cls dd (ex.trans e2) b2
/-- an argument list, then a value -/
theorem gotLE {F : Reg} {σ : St} {H : Hp} {Q : VK} {env : Slots} {g : Bag} {f : List D → M D} (r : ER fr F env σ H g) (hg : Got fr F σ H Q (M.bnd (ρs env) f g))
    {Q' : List V → Hp → Prop} (k : ∀ d g' H' F' v, ρs env g = .ok d g' → Ext fr.β F H F' H' → ER fr F' env σ H' g' → Rs H' F' fr.β d v → Got fr F' σ H' Q (f d g') → Q' v H') : tA fr ρs σ H Q' := by
  refine ⟨env, F, g, r, ?_⟩
  unfold M.bnd at hg
  cases ho : ρs env g with
  | bad => rw [ho] at hg; exact hg
  | exn c p g' => rw [ho] at hg; exact hg
  | ok d g' =>
    rw [ho] at hg
    have hg : Got fr F σ H Q (f d g') := hg
    intro v H' F' ex b q
    refine k d g' H' F' v ho ex (r.ext ex b) q ?_
    cases h2 : f d g' with
    | bad => rw [h2] at hg; exact hg.elim
    | ok d2 g2 => rw [h2] at hg; exact fun v H2 F2 e2 b2 => hg v H2 F2 (ex.trans e2) b2
    | exn c p g2 => rw [h2] at hg; exact fun H2 F2 cls dd e2 b2 => hg H2 F2 cls dd (ex.trans e2) b2
theorem av_of (t : TA) (h : PA X es t) (k : ∀ σ H Q env F g, ER fr F env σ H g → GotL fr F σ H Q (ρs env g) → t σ H Q) : AV X fr es ρs :=
  ⟨fun pos pins s σ H Q I ⟨env, F, g, r, hg⟩ => h.run pos pins s σ H Q I (k σ H Q env F g r hg)⟩
theorem av_nil : AV X fr [] nilA := av_of _ pa_nil fun σ H Q env F g r hg => hg [] H F (Ext.refl _ _ _) r.bag .nil
theorem av_cons (h : EV X fr e ρ) (h2 : AV X fr es ρs) (hs : starEach (e :: es) X.env = (false, eval e X.env) :: starEach es X.env := by rfl) : AV X fr (e :: es) (consA ρ ρs) := by
  refine av_of _ (pa_cons h h2 hs) fun σ H Q env F g r hg => ?_
  refine got_seqL r hg fun d g1 H1 F1 v ho ex er q hq => ?_
  refine gotLL er hq fun ds g2 H2 F2 vs ho2 ex2 er2 qs hq2 => ?_
  exact hq2 (v :: vs) H2 F2 (Ext.refl _ _ _) er2.bag (.cons (q.ext er.bag ex2) qs)

/-! ### displays -/
def tupE (ρs : AX) : EX := fun env => M.bnd (ρs env) fun ds => M.ofO (if ds.length ≤ 1000 then some (.tup ds) else none)
def lstE (ρs : AX) : EX := fun env => M.bnd (ρs env) fun ds => M.ofO (if ds.length ≤ 1000 then some (.lst ds) else none)
theorem le_line {n : Nat} (h : n ≤ 1000) : n ≤ sizeLine := by rw [sizeLine_eq]; omega
theorem ev_tup {x1} (h : AV X fr es ρs) : EV X fr (.Tuple es x1 pos) (tupE ρs) := by
  refine ev_of _ _ _ (pe_tup h) fun σ H Q env F g r hg => ?_
  refine gotLE r hg fun ds g1 H1 F1 vs ho ex er q hq => ?_
  obtain ⟨d, ed, hq⟩ := ofO_got hq
  split at ed
  · rename_i hl
    cases ed
    exact ⟨le_line (by rw [← q.length]; exact hl), fun p hp => got_hit hq (hit_tup er.bag q hp)⟩
  · cases ed
theorem ev_lst (h : AV X fr es ρs) : EV X fr (.List es pos) (lstE ρs) := by
  refine ev_of _ _ _ (pe_lst h) fun σ H Q env F g r hg => ?_
  refine gotLE r hg fun ds g1 H1 F1 vs ho ex er q hq => ?_
  obtain ⟨d, ed, hq⟩ := ofO_got hq
  split at ed
  · rename_i hl
    cases ed
    exact ⟨le_line (by rw [← q.length]; exact hl), fun p hp => got_hit hq (hit_lst er.bag q hp)⟩
  · cases ed

/-! ### built-ins called -/
structure OpL (X : Cx) (fr : Fr) (f : Value) (q : List D → Option D) : Prop where
  at_ : ∀ H F g xs ds d, BagOk fr.β F H g → Rs H F fr.β ds xs → q ds = some d → ∃ r, CallR X f r ∧ r xs H (Hit fr F H g d)
def callE (q : List D → Option D) (ρs : AX) : EX := fun env => M.bnd (ρs env) fun ds => M.ofO (q ds)
theorem AV.goM {X : Cx} {fr : Fr} {es : List Expr} {ρs : AX} (h : AV X fr es ρs) {cpos : Pos} {pins : List (Addr × Obj)} {s : Shared} {σ : St} {H : Hp} {F : Reg} {env : Slots} {g : Bag} {P : List Value → Shared → Prop} {f : List D → M D} {Q : VK} (I : Inv X pins σ H s) (r : ER fr F env σ H g)
    (hg : Got fr F σ H Q (M.bnd (ρs env) f g))
    (hk : ∀ d g' us s' vs H' F', Inv X pins σ H' s' → Vals vs us → Ext fr.β F H F' H' → ER fr F' env σ H' g' → Rs H' F' fr.β d vs → Got fr F' σ H' Q (f d g') → P us s') :
    wpAny (model X.prog X.w) X.A (spliced (backTo cpos (starEach es X.env))) P X.xe s := by
  have key := gotLE (Q' := fun vs H' => ∃ d g' F', Ext fr.β F H F' H' ∧ ER fr F' env σ H' g' ∧ Rs H' F' fr.β d vs ∧ Got fr F' σ H' Q (f d g')) r hg fun d g' H' F' v ho ex er q hq => ⟨d, g', F', ex, er, q, hq⟩
  exact thn (PA.run h cpos pins s σ H _ I key) fun us s' ⟨vs, H', I', rv, d, g', F', ex, er, q, hq⟩ => hk d g' us s' vs H' F' I' rv ex er q hq
theorem ev_callB {x : Str} {id : String} {p : Pos} {q : List D → Option D} (ho : OpL X fr (.builtin id) q) (hg : Gl X x) (hm : X.mg x = none) (hv : bootBuiltins x = some (.builtin id)) (ha : AV X fr (e :: es) ρs) (hn : x ≠ "__name__" := by decide) (hdb : (x == ("__debug__" : Str)) = false := by decide)
    (he : starEach (e :: es) X.env = (false, eval e X.env) :: starEach es X.env := by rfl) (hpl : (backTo pos (starEach es X.env)).any (·.1) = false := by rfl) : EV X fr (.Call (.Name x p) (e :: es) [] pos) (callE q ρs) := by
  refine ⟨fun pins s σ H Q I ⟨env, F, g, r, hgt⟩ => ?_⟩
  refine wpAny_Call_Name_kw (ld_blt I hg hm hv ?_ hn hdb)
  refine PyProof.Rows.callWith_builtin1 (ha.goM I r hgt fun ds g1 us s1 vs H1 F1 I1 rv ex er qs hq => ?_) he hpl
  obtain ⟨d, ed, hq⟩ := ofO_got hq
  obtain ⟨r', hr, hh⟩ := ho.at_ H1 F1 g1 vs ds d er.bag qs ed
  exact thn (hr pins s1 σ H1 vs us _ I1 rv hh) fun u s' e => ep_imp e fun v H' z => got_hit hq z
theorem ev_callTy {x : Str} {T : String} {p : Pos} {q : List D → Option D} (ho : OpL X fr (.type T) q) (hg : Gl X x) (hm : X.mg x = none) (hv : bootBuiltins x = some (.type T)) (ha : AV X fr (e :: es) ρs) (hn : x ≠ "__name__" := by decide) (hdb : (x == ("__debug__" : Str)) = false := by decide)
    (he : starEach (e :: es) X.env = (false, eval e X.env) :: starEach es X.env := by rfl) (hpl : (backTo pos (starEach es X.env)).any (·.1) = false := by rfl) : EV X fr (.Call (.Name x p) (e :: es) [] pos) (callE q ρs) := by
  refine ⟨fun pins s σ H Q I ⟨env, F, g, r, hgt⟩ => ?_⟩
  refine wpAny_Call_Name_kw (ld_blt I hg hm hv ?_ hn hdb)
  refine PyProof.Rows.callWith_type1 (ha.goM I r hgt fun ds g1 us s1 vs H1 F1 I1 rv ex er qs hq => ?_) he hpl
  obtain ⟨d, ed, hq⟩ := ofO_got hq
  obtain ⟨r', hr, hh⟩ := ho.at_ H1 F1 g1 vs ds d er.bag qs ed
  exact thn (hr pins s1 σ H1 vs us _ I1 rv hh) fun u s' e => ep_imp e fun v H' z => got_hit hq z

/-! ### own defs called -/
abbrev FX := List D → M D
def xcOk (β : Option Addr) (xc : Nat → Option (Addr × Option Str)) (F : Reg) (H : Hp) (c : Nat) (p : D) (cls : Value) (d : Option Addr) : Prop := ExcAt ⟨β, fun _ _ _ _ => False, xc⟩ F H c p cls d
def spV (β : Option Addr) (xc : Nat → Option (Addr × Option Str)) (n : Nat) (ρ : FX) : Sp := fun vs H Q E => vs.length = n ∧ ∃ F g ds, BagOk β F H g ∧ Rs H F β ds vs ∧ match ρ ds g with
  | .bad => False
  | .ok d g' => ∀ v H' F', Ext β F H F' H' → BagOk β F' H' g' → R H' F' β d v → Q v H'
  | .exn c p g' => ∀ H' F' cls dd, Ext β F H F' H' → BagOk β F' H' g' → xcOk β xc F' H' c p cls dd → E cls dd H'
/-- no exception is let through -/
def noX {α : Type} (m : M α) : M α := fun g => match m g with
  | .exn _ _ _ => .bad
  | o => o
def fnE (ρ : FX) (ρs : AX) (n : Nat) : EX := fun env => M.bnd (ρs env) fun ds => if ds.length = n then noX (ρ ds) else M.bad
def fnXE (ρ : FX) (ρs : AX) (n : Nat) : EX := fun env => M.bnd (ρs env) fun ds => if ds.length = n then ρ ds else M.bad
theorem spV_of {F : Reg} {σ : St} {H : Hp} {Q : VK} {g : Bag} {ρ : FX} {ds : List D} {vs : List V} {n : Nat} (b : BagOk fr.β F H g) (q : Rs H F fr.β ds vs) (hq : Got fr F σ H Q ((if ds.length = n then noX (ρ ds) else M.bad) g)) : spV fr.β fr.xc n ρ vs H Q E0 := by
  by_cases hl : ds.length = n
  · rw [if_pos hl] at hq
    refine ⟨by rw [← q.length]; exact hl, F, g, ds, b, q, ?_⟩
    unfold noX at hq
    cases ho : ρ ds g with
    | bad => rw [ho] at hq; exact hq
    | ok d g' => rw [ho] at hq; exact hq
    | exn c p g' => rw [ho] at hq; exact (show False from hq).elim
  · rw [if_neg hl] at hq
    exact (show False from hq).elim
theorem spV_ofX {F : Reg} {σ : St} {H : Hp} {Q : VK} {g : Bag} {ρ : FX} {ds : List D} {vs : List V} {n : Nat} (b : BagOk fr.β F H g) (q : Rs H F fr.β ds vs) (hq : Got fr F σ H Q ((if ds.length = n then ρ ds else M.bad) g)) : spV fr.β fr.xc n ρ vs H Q (WE fr.W σ) := by
  by_cases hl : ds.length = n
  · rw [if_pos hl] at hq
    refine ⟨by rw [← q.length]; exact hl, F, g, ds, b, q, ?_⟩
    cases ho : ρ ds g with
    | bad => rw [ho] at hq; exact hq
    | ok d g' => rw [ho] at hq; exact hq
    | exn c p g' => rw [ho] at hq; exact hq
  · rw [if_neg hl] at hq
    exact (show False from hq).elim
variable {x : Str} {p : Pos} {f : Addr} {fd : FuncData} {ps : List Str} {k : Nat} {ρf : FX}
theorem ev_call (G : FnOk X.prog X.w X.K X.mg X.base CX0 k f fd ps (spV fr.β fr.xc ps.length ρf)) (hr : Room k X.A) (hg : Gl X x) (hm : X.mg x = some (.ref f)) (hk : PySem.W.keepIn X.K (.ref f) = true) (hb : Binds X.K fd ps []) (ha : AV X fr (e :: es) ρs)
    (hdb : (x == ("__debug__" : Str)) = false := by decide) (he : starEach (e :: es) X.env = (false, eval e X.env) :: starEach es X.env := by rfl) (hpl : (backTo pos (starEach es X.env)).any (·.1) = false := by rfl) :
    EV X fr (.Call (.Name x p) (e :: es) [] pos) (fnE ρf ρs ps.length) := by
  refine ev_of _ _ _ (pe_call G hr hg hm hk hb .nil pass0 ha hdb he hpl) fun σ H Q env F g r hgt => ?_
  refine gotLE r hgt fun ds g1 H1 F1 vs ho ex er q hq => ?_
  rw [List.append_nil]
  exact spV_of er.bag q hq
theorem ev_callX (G : FnOk X.prog X.w X.K X.mg X.base (L2.CX X.prog X.w) k f fd ps (spV fr.β fr.xc ps.length ρf)) (tk : Takes X fr.W) (hr : Room k X.A) (hg : Gl X x) (hm : X.mg x = some (.ref f)) (hk : PySem.W.keepIn X.K (.ref f) = true) (hb : Binds X.K fd ps []) (ha : AV X fr (e :: es) ρs)
    (hdb : (x == ("__debug__" : Str)) = false := by decide) (he : starEach (e :: es) X.env = (false, eval e X.env) :: starEach es X.env := by rfl) (hpl : (backTo pos (starEach es X.env)).any (·.1) = false := by rfl) :
    EV X fr (.Call (.Name x p) (e :: es) [] pos) (fnXE ρf ρs ps.length) := by
  refine ev_of _ _ _ (pe_callS (E := WE fr.W) G hr hg hm hk hb (fun σ => passAt tk σ) ha hdb he hpl) fun σ H Q env F g r hgt => ?_
  refine gotLE r hgt fun ds g1 H1 F1 vs ho ex er q hq => ?_
  exact spV_ofX er.bag q hq

/-! ### subscripts -/
structure OpI (X : Cx) (fr : Fr) (q : D → D → Option D) : Prop where
  at_ : ∀ H F g x y d1 d2 d, BagOk fr.β F H g → R H F fr.β d1 x → R H F fr.β d2 y → q d1 d2 = some d → ∃ r, IxR X r ∧ r x y H (Hit fr F H g d)
variable {a b : Expr} {ρa ρb : EX}
theorem binI_go {q : D → D → Option D} (ho : OpI X fr q) (ha : EV X fr a ρa) (hb : EV X fr b ρb) (hs : PlainIx b) : EV X fr (.Subscript a b pos) (bin2 q ρa ρb) := by
  refine ⟨fun pins s σ H Q I ⟨env, F, g, r, hg⟩ => Subscript_ ?_⟩
  refine ha.goM I r hg fun d1 g1 u1 s1 v1 H1 F1 I1 rv1 ex1 er1 q1 hg1 => hb.goM I1 er1 hg1 fun d2 g2 u2 s2 v2 H2 F2 I2 rv2 ex2 er2 q2 hg2 => ?_
  obtain ⟨d, ed, hg3⟩ := ofO_got hg2
  obtain ⟨r', hr, hq⟩ := ho.at_ H2 F2 g2 v1 v2 d1 d2 d er2.bag (q1.ext er1.bag ex2) q2 ed
  exact thn (hr a b pins s2 σ H2 v1 v2 u1 u2 _ I2 rv1 rv2 hq (hs _ _)) fun u s' e => ep_imp e fun v H' z => got_hit hg3 z
def asI : D → Option Int
  | .int i => some i
  | _ => none
def ixD : D → D → Option D
  | .lst xs, .int i => atI xs i
  | .tup xs, .int i => atI xs i
  | _, _ => none
theorem Rs.atI {H : Hp} {F : Reg} {β : Option Addr} {ds : List D} {vs : List V} {i : Int} {d : D} (h : Rs H F β ds vs) (e : atI ds i = some d) : ∃ v, L2.atI vs i = some v ∧ R H F β d v := by
  unfold L2.atI at e ⊢
  rw [← h.length]
  cases q : ixN ds.length i with
  | none => rw [q] at e; cases e
  | some j =>
    rw [q] at e
    exact h.get e
theorem op_ix : OpI X fr ixD := ⟨fun H F g x y d1 d2 d b r1 r2 e => by
  cases d2 with
  | int i =>
    unfold R at r2
    subst r2
    cases d1 with
    | lst xs =>
      unfold R at r1
      obtain ⟨a, vs, rfl, _, h, rs⟩ := r1
      obtain ⟨v, e2, q⟩ := rs.atI e
      exact ⟨_, ix_list, a, vs, i, v, rfl, rfl, SqL.of h, e2, hit_here b q⟩
    | tup xs =>
      unfold R at r1
      obtain ⟨a, vs, rfl, h, rs⟩ := r1
      obtain ⟨v, e2, q⟩ := rs.atI e
      exact ⟨_, ix_tup, a, vs, i, v, rfl, rfl, SqT.of h, e2, hit_here b q⟩
    | _ => cases e
  | _ => cases d1 <;> cases e⟩
theorem ev_ix (ha : EV X fr a ρa) (hb : EV X fr b ρb) (hs : PlainIx b := by intro _ _; rfl) : EV X fr (.Subscript a b pos) (bin2 ixD ρa ρb) := binI_go op_ix ha hb hs
/-- the bag's places: bag[0], bag[1], bag[2] -/
def bagIx (g : Bag) : Int → Option Int
  | 0 => some g.1
  | 1 => some g.2.1
  | 2 => some g.2.2
  | _ => none
def bagE (i : Int) (ρa : EX) : EX := fun env => M.bnd (ρa env) fun d g => match d with
  | .bag => match bagIx g i with
    | some z => .ok (.int z) g
    | none => .bad
  | _ => .bad
theorem ev_bagix {i : Int} {j} {pos2 : Pos} (ha : EV X fr a ρa) : EV X fr (.Subscript a (.Constant (.int i) j pos2) pos) (bagE i ρa) := by
  refine ev_of _ _ _ (pe_ix ix_list ha pe_int (fun _ _ => rfl)) fun σ H Q env F g r hg => ?_
  refine got_seq r hg fun d g' H' F' v ho ex er q hq => ?_
  cases d with
  | bag =>
    unfold R at q
    obtain ⟨b, hb, rfl⟩ := q
    obtain ⟨_, hB⟩ := er.bag.at_ b hb
    have hq : Got fr F' σ H' Q (match bagIx g' i with
      | some z => .ok (.int z) g'
      | none => .bad) := hq
    cases hz : bagIx g' i with
    | none => rw [hz] at hq; exact hq.elim
    | some z =>
      rw [hz] at hq
      refine ⟨b, bagV g', i, .int z, rfl, rfl, SqL.of hB, ?_, got_hit hq (hit_here er.bag (by unfold R; rfl))⟩
      unfold bagIx at hz
      split at hz <;> (cases hz <;> rfl)
  | _ => exact (show False from hq).elim
/-- slices -/
structure OpS (X : Cx) (fr : Fr) (q : D → Option Int → Option Int → Option D) : Prop where
  at_ : ∀ H F g x d1 lo hi d, BagOk fr.β F H g → R H F fr.β d1 x → q d1 lo hi = some d → ∃ r, SlR X r ∧ r x lo hi H (Hit fr F H g d)
def cutD (xs : List D) (lo hi : Option Int) : List D := (xs.drop (HT.sIx xs.length 0 lo)).take (HT.sIx xs.length xs.length hi - HT.sIx xs.length 0 lo)
def slD : D → Option Int → Option Int → Option D
  | .lst xs, lo, hi => some (.lst (cutD xs lo hi))
  | .tup xs, lo, hi => some (.tup (cutD xs lo hi))
  | _, _, _ => none
theorem Rs.cut {H : Hp} {F : Reg} {β : Option Addr} {ds : List D} {vs : List V} {lo hi : Option Int} (h : Rs H F β ds vs) : Rs H F β (cutD ds lo hi) (cutV vs lo hi) := by
  unfold cutD cutV
  rw [← h.length]
  exact (h.drop _).take _
theorem cutD_all {ds : List D} {lo hi : Option Int} (h : HT.sIx ds.length 0 lo = 0 ∧ HT.sIx ds.length ds.length hi = ds.length) : cutD ds lo hi = ds := by
  unfold cutD
  rw [h.1, h.2]
  simp
theorem op_sl : OpS X fr slD := ⟨fun H F g x d1 lo hi d b r1 e => by
  cases d1 with
  | lst xs =>
    cases e
    unfold R at r1
    obtain ⟨a, vs, rfl, _, h, rs⟩ := r1
    exact ⟨_, sl_list, a, vs, rfl, SqL.of h, fun p hp => hit_lst b rs.cut hp⟩
  | tup xs =>
    cases e
    have r1' := r1
    unfold R at r1
    obtain ⟨a, vs, rfl, h, rs⟩ := r1
    refine ⟨_, sl_tupA, a, vs, rfl, SqT.of h, fun z => ?_, fun z p hp => hit_tup b rs.cut hp⟩
    rw [← rs.length] at z
    rw [cutD_all z]
    exact hit_here b r1'
  | _ => cases e⟩
abbrev PX := Slots → M (Option Int)
def noP : PX := fun _ => M.ret none
def someP (ρ : EX) : PX := fun env => M.bnd (ρ env) fun d => match d with
  | .int i => M.ret (some i)
  | _ => M.bad
def slE (ρ : EX) (l h : PX) : EX := fun env => M.bnd (ρ env) fun d => M.bnd (l env) fun i => M.bnd (h env) fun j => M.ofO (slD d i j)
/-- a slice's part -/
def PV (X : Cx) (fr : Fr) (e : Option Expr) (π : PX) : Prop := ∀ (pins : List (Addr × Obj)) (s : Shared) (σ : St) (H : Hp) (F : Reg) (env : Slots) (g : Bag) (P : Value → Shared → Prop), Inv X pins σ H s → ER fr F env σ H g → π env g ≠ .bad →
  (∀ c p g', π env g = .exn c p g' → ∀ H' F' cls dd, Ext fr.β F H F' H' → BagOk fr.β F' H' g' → ExcAt fr F' H' c p cls dd → fr.W cls dd σ H') →
  (∀ i g', π env g = .ok i g' → ∀ u s' H' F', Inv X pins σ H' s' → IsPart u i → Ext fr.β F H F' H' → ER fr F' env σ H' g' → P u s') → wpAny (model X.prog X.w) X.A (evalPart e X.env) P X.xe s
theorem pv_none : PV X fr none noP := by
  intro pins s σ H F env g P I r hb hx hk
  rw [evalPart_none]
  exact wpAny_pure (hk none g rfl _ _ H F I .none (Ext.refl _ _ _) r)
theorem pv_some (h : EV X fr e ρ) : PV X fr (some e) (someP ρ) := by
  intro pins s σ H F env g P I r hb hx hk
  rw [evalPart_some]
  unfold someP M.bnd at hb hx hk
  refine h.go I r (fun z => hb (by rw [z])) (fun c p g' z => hx c p g' (by rw [z])) fun d g' z u s' v H' F' I' rv ex er q => ?_
  rw [z] at hb hk
  cases d with
  | int i =>
    unfold R at q
    subst q
    obtain ⟨t, rfl⟩ := rv
    exact hk (some i) g' rfl _ s' H' F' I' (.int i t) ex er
  | _ => exact absurd rfl hb
theorem PV.goM {lo : Option Expr} {π : PX} (h : PV X fr lo π) {pins : List (Addr × Obj)} {s : Shared} {σ : St} {H : Hp} {F : Reg} {env : Slots} {g : Bag} {P : Value → Shared → Prop} {f : Option Int → M D} {Q : VK} (I : Inv X pins σ H s) (r : ER fr F env σ H g)
    (hg : Got fr F σ H Q (M.bnd (π env) f g))
    (hk : ∀ i g' u s' H' F', Inv X pins σ H' s' → IsPart u i → Ext fr.β F H F' H' → ER fr F' env σ H' g' → Got fr F' σ H' Q (f i g') → P u s') : wpAny (model X.prog X.w) X.A (evalPart lo X.env) P X.xe s := by
  refine h pins s σ H F env g P I r (fun z => ?_) (fun c p g' z => ?_) fun i g' z u s' H' F' I' pu ex er => hk i g' u s' H' F' I' pu ex er ?_
  · unfold M.bnd at hg
    rw [z] at hg
    exact hg
  · unfold M.bnd at hg
    rw [z] at hg
    exact hg
  · unfold M.bnd at hg
    rw [z] at hg
    have hg : Got fr F σ H Q (f i g') := hg
    cases ho : f i g' with
    | bad => rw [ho] at hg; exact hg.elim
    | ok d2 g2 =>
      rw [ho] at hg
      exact fun v2 H2 F2 ex2 b2 q2 => hg v2 H2 F2 (ex.trans ex2) b2 q2
    | exn c p g2 =>
      rw [ho] at hg
      exact fun H2 F2 cls dd ex2 b2 q2 => hg H2 F2 cls dd (ex.trans ex2) b2 q2
theorem ev_slice {lo hi : Option Expr} {l h : PX} {p2 : Pos} (he : EV X fr e ρ) (hl : PV X fr lo l) (hu : PV X fr hi h) : EV X fr (.Subscript e (.Slice lo hi none p2) pos) (slE ρ l h) := by
  refine ⟨fun pins s σ H Q I ⟨env, F, g, r, hg⟩ => ?_⟩
  refine Subscript_ (he.goM I r hg fun d g1 u s1 v H1 F1 I1 rv ex1 er1 q hg1 => ?_)
  refine wpAny_Slice (hl.goM I1 er1 hg1 fun i g2 vl s2 H2 F2 I2 pl ex2 er2 hg2 => hu.goM I2 er2 hg2 fun j g3 vu s3 H3 F3 I3 pu ex3 er3 hg3 => ?_)
  rw [evalPart_none]
  refine wpAny_pure ?_
  obtain ⟨d2, ed, hg4⟩ := ofO_got hg3
  obtain ⟨r', hr, hq⟩ := op_sl.at_ H3 F3 g3 v d i j d2 er3.bag ((q.ext er1.bag ex2).ext er2.bag ex3) ed
  have I4 : Inv X pins σ H3 { s3 with heap := s3.heap.push { cls := .type "slice", data := .fields #[vl, vu, .none] } } := I3.kept (t' := s3.toks) fun b ob q => Heap.get?_push_of_some _ q
  obtain ⟨T, id, hT, ht, hgi⟩ := hr pins { s3 with heap := s3.heap.push { cls := .type "slice", data := .fields #[vl, vu, .none] } } σ H3 v u vl vu i j s3.heap.objs.size _ I4 rv (Heap.IsSliceOf.new ..) pl pu hq
  show wpAny (model X.prog X.w) X.A (subscriptTail e (.Slice lo hi none p2) u (.ref s3.heap.objs.size)) (EP X pins σ Q) X.xe { s3 with heap := s3.heap.push { cls := .type "slice", data := .fields #[vl, vu, .none] } }
  exact thn (tail_any (ops := [.ref s3.heap.objs.size, u]) ht hT hgi (by with_unfolding_all rfl)) fun u s' e => ep_imp e fun v H' z => got_hit hg4 z
end
end VS

/-! VS4: operations on values. -/
namespace VS
open PySem PySem.Spec L2
open PyProof.Rows hiding St

section
variable {X : Cx} {fr : Fr} {F : Reg} {H : Hp} {β : Option Addr}
theorem r_int {i : Int} {v : V} (h : R H F β (.int i) v) : v = .int i := by unfold R at h; exact h
theorem r_bl {i : Bool} {v : V} (h : R H F β (.bl i) v) : v = .bl i := by unfold R at h; exact h
theorem r_non {v : V} (h : R H F β .non v) : v = .non := by unfold R at h; exact h
theorem r_str {i : Str} {v : V} (h : R H F β (.str i) v) : v = .str i := by unfold R at h; exact h
theorem r_tup {xs : List D} {v : V} (h : R H F β (.tup xs) v) : ∃ a vs, v = .ref a ∧ H a = some (.tup vs) ∧ Rs H F β xs vs := by unfold R at h; exact h
theorem r_lst {xs : List D} {v : V} (h : R H F β (.lst xs) v) : ∃ a vs, v = .ref a ∧ F a ∧ H a = some (.lst vs) ∧ Rs H F β xs vs := by unfold R at h; exact h
theorem r_dK {ks : List Key} {xs : List D} {v : V} (h : R H F β (.dK ks xs) v) : ∃ a kv, v = .ref a ∧ F a ∧ Rd H a (.dK kv) ∧ ks = kv.map (·.1) ∧ Rs H F β xs (kv.map (·.2)) := by unfold R at h; exact h
theorem r_dT {ks : List (List Key)} {xs : List D} {v : V} (h : R H F β (.dT ks xs) v) : ∃ a kv, v = .ref a ∧ F a ∧ Rd H a (.dT kv) ∧ ks = kv.map (·.1) ∧ Rs H F β xs (kv.map (·.2)) := by unfold R at h; exact h
theorem r_bag {v : V} (h : R H F β .bag v) : ∃ b, β = some b ∧ v = .ref b := by unfold R at h; exact h
theorem int_r {i : Int} : R H F β (.int i) (.int i) := by unfold R; rfl
theorem bl_r {i : Bool} : R H F β (.bl i) (.bl i) := by unfold R; rfl
theorem non_r : R H F β .non .non := by unfold R; rfl
theorem str_r {i : Str} : R H F β (.str i) (.str i) := by unfold R; rfl
theorem rs_ints : ∀ {ns : List Int} {vs : List V}, Rs H F β (ns.map D.int) vs → vs = ns.map V.int
  | [], vs, h => by unfold Rs at h; exact h
  | n :: ns, vs, h => by
    obtain ⟨v, r, rfl, h1, h2⟩ := h.uncons
    rw [r_int h1, rs_ints h2]
    rfl
theorem rs_bls : ∀ {ns : List Bool} {vs : List V}, Rs H F β (ns.map D.bl) vs → vs = ns.map V.bl
  | [], vs, h => by unfold Rs at h; exact h
  | n :: ns, vs, h => by
    obtain ⟨v, r, rfl, h1, h2⟩ := h.uncons
    rw [r_bl h1, rs_bls h2]
    rfl
end
abbrev line : Nat := 16777216
theorem line_eq : sizeLine = line := sizeLine_eq

/-! ### whole numbers -/
def addD : D → D → Option D
  | .int i, .int j => some (.int (i + j))
  | .tup xs, .tup ys => if xs.length + ys.length ≤ line then some (.tup (xs ++ ys)) else none
  | .lst xs, .lst ys => if xs.length + ys.length ≤ line then some (.lst (xs ++ ys)) else none
  | _, _ => none
def subD : D → D → Option D
  | .int i, .int j => some (.int (i - j))
  | _, _ => none
def mulD : D → D → Option D
  | .int i, .int j => if (-(2 ^ 64) < i ∧ i < 2 ^ 64) ∨ (-(2 ^ 64) < j ∧ j < 2 ^ 64) then some (.int (i * j)) else none
  | .lst xs, .int k => if -(2 ^ 63) ≤ k ∧ k < 2 ^ 63 ∧ xs.length * k.toNat ≤ line then some (.lst (List.replicate k.toNat xs).flatten) else none
  | .tup xs, .int k => if xs ≠ [] ∧ 2 ≤ k ∧ k ≤ 1000 ∧ xs.length ≤ 1000 then some (.tup (List.replicate k.toNat xs).flatten) else none
  | _, _ => none
def divD : D → D → Option D
  | .int i, .int j => if 0 < j ∧ j < 1073741824 then some (.int (i / j)) else none
  | _, _ => none
def modD : D → D → Option D
  | .int i, .int j => if 0 < j then some (.int (i % j)) else none
  | _, _ => none
def powD : D → D → Option D
  | .int i, .int j => if 0 ≤ j ∧ j ≤ 1000000 ∧ i.natAbs < 2 ^ 64 then some (.int (i ^ j.toNat)) else none
  | _, _ => none
def shlD : D → D → Option D
  | .int i, .int j => if 0 ≤ j ∧ j ≤ 1000000 ∧ i.natAbs < 2 ^ 64 then some (.int (i * 2 ^ j.toNat)) else none
  | _, _ => none
def shrD : D → D → Option D
  | .int i, .int j => if 0 ≤ j then some (.int (i / 2 ^ j.toNat)) else none
  | _, _ => none
def bandD : D → D → Option D
  | .int i, .int j => some (.int (Builtin.bitAnd i j))
  | _, _ => none
def ltD : D → D → Option D
  | .int i, .int j => some (.bl (decide (i < j)))
  | _, _ => none
def leD : D → D → Option D
  | .int i, .int j => some (.bl (decide (i ≤ j)))
  | _, _ => none
def gtD : D → D → Option D
  | .int i, .int j => some (.bl (decide (j < i)))
  | _, _ => none
def geD : D → D → Option D
  | .int i, .int j => some (.bl (decide (j ≤ i)))
  | _, _ => none
def negD : D → Option D
  | .int i => some (.int (-i))
  | _ => none
theorem Rs.rep {H : Hp} {F : Reg} {β : Option Addr} {ds : List D} {vs : List V} (h : Rs H F β ds vs) : ∀ n : Nat, Rs H F β (List.replicate n ds).flatten (List.replicate n vs).flatten
  | 0 => by simp; exact .nil
  | n + 1 => by
    rw [List.replicate_succ, List.replicate_succ, List.flatten_cons, List.flatten_cons]
    exact h.append (Rs.rep h n)
theorem Rs.ne_nil {H : Hp} {F : Reg} {β : Option Addr} {ds : List D} {vs : List V} (h : Rs H F β ds vs) : vs = [] ↔ ds = [] := by
  cases ds with
  | nil => unfold Rs at h; simp [h]
  | cons d ds =>
    obtain ⟨v, r, rfl, _, _⟩ := h.uncons
    simp
section
variable {X : Cx} {fr : Fr}
theorem op2_ii {f : Value → Value → Sem Value} {q : D → D → Option D} {C : Int → Int → Prop} {w : Int → Int → V} {z : Int → Int → D} (rule : OpR X f (rI C w)) (hq : ∀ d1 d2 d, q d1 d2 = some d → ∃ i j, d1 = .int i ∧ d2 = .int j ∧ C i j ∧ d = z i j) (hr : ∀ i j H F β, R H F β (z i j) (w i j)) : Op2 X fr f q :=
  ⟨fun H F g x y d1 d2 d b r1 r2 e => by
    obtain ⟨i, j, rfl, rfl, hc, rfl⟩ := hq d1 d2 d e
    exact ⟨_, rule, i, j, r_int r1, r_int r2, hc, hit_here b (hr i j _ _ _)⟩⟩
theorem op2_i0 {f : Value → Value → Sem Value} {q : D → D → Option D} {w : Int → Int → V} {z : Int → Int → D} (rule : OpR X f (rI0 w)) (hq : ∀ d1 d2 d, q d1 d2 = some d → ∃ i j, d1 = .int i ∧ d2 = .int j ∧ d = z i j) (hr : ∀ i j H F β, R H F β (z i j) (w i j)) : Op2 X fr f q :=
  ⟨fun H F g x y d1 d2 d b r1 r2 e => by
    obtain ⟨i, j, rfl, rfl, rfl⟩ := hq d1 d2 d e
    exact ⟨_, rule, i, j, r_int r1, r_int r2, hit_here b (hr i j _ _ _)⟩⟩
theorem o_sub : Op2 X fr (binaryOp .Sub) subD := op2_i0 op_sub (z := fun i j => .int (i - j)) (fun d1 d2 d e => by unfold subD at e; split at e <;> cases e; exact ⟨_, _, rfl, rfl, rfl⟩) fun _ _ _ _ _ => int_r
theorem o_band : Op2 X fr (binaryOp .BitAnd) bandD := op2_i0 op_and (z := fun i j => .int (Builtin.bitAnd i j)) (fun d1 d2 d e => by unfold bandD at e; split at e <;> cases e; exact ⟨_, _, rfl, rfl, rfl⟩) fun _ _ _ _ _ => int_r
theorem o_lt : Op2 X fr (compareOp .Lt) ltD := op2_i0 op_lt (z := fun i j => .bl (decide (i < j))) (fun d1 d2 d e => by unfold ltD at e; split at e <;> cases e; exact ⟨_, _, rfl, rfl, rfl⟩) fun _ _ _ _ _ => bl_r
theorem o_le : Op2 X fr (compareOp .LtE) leD := op2_i0 op_le (z := fun i j => .bl (decide (i ≤ j))) (fun d1 d2 d e => by unfold leD at e; split at e <;> cases e; exact ⟨_, _, rfl, rfl, rfl⟩) fun _ _ _ _ _ => bl_r
theorem o_gt : Op2 X fr (compareOp .Gt) gtD := op2_i0 op_gt (z := fun i j => .bl (decide (j < i))) (fun d1 d2 d e => by unfold gtD at e; split at e <;> cases e; exact ⟨_, _, rfl, rfl, rfl⟩) fun _ _ _ _ _ => bl_r
theorem o_ge : Op2 X fr (compareOp .GtE) geD := op2_i0 op_ge (z := fun i j => .bl (decide (j ≤ i))) (fun d1 d2 d e => by unfold geD at e; split at e <;> cases e; exact ⟨_, _, rfl, rfl, rfl⟩) fun _ _ _ _ _ => bl_r
theorem o_div : Op2 X fr (binaryOp .FloorDiv) divD := op2_ii op_fdiv (z := fun i j => .int (i / j)) (fun d1 d2 d e => by
  unfold divD at e
  split at e
  · split at e
    · cases e; exact ⟨_, _, rfl, rfl, by assumption, rfl⟩
    · cases e
  · cases e) fun _ _ _ _ _ => int_r
theorem o_mod : Op2 X fr (binaryOp .Mod) modD := op2_ii op_mod (z := fun i j => .int (i % j)) (fun d1 d2 d e => by
  unfold modD at e
  split at e
  · split at e
    · cases e; exact ⟨_, _, rfl, rfl, by assumption, rfl⟩
    · cases e
  · cases e) fun _ _ _ _ _ => int_r
theorem o_pow : Op2 X fr (binaryOp .Pow) powD := op2_ii op_pow (z := fun i j => .int (i ^ j.toNat)) (fun d1 d2 d e => by
  unfold powD at e
  split at e
  · split at e
    · cases e; exact ⟨_, _, rfl, rfl, by assumption, rfl⟩
    · cases e
  · cases e) fun _ _ _ _ _ => int_r
theorem o_shl : Op2 X fr (binaryOp .LShift) shlD := op2_ii op_shl (z := fun i j => .int (i * 2 ^ j.toNat)) (fun d1 d2 d e => by
  unfold shlD at e
  split at e
  · split at e
    · cases e; exact ⟨_, _, rfl, rfl, by assumption, rfl⟩
    · cases e
  · cases e) fun _ _ _ _ _ => int_r
theorem o_shr : Op2 X fr (binaryOp .RShift) shrD := op2_ii op_shr (z := fun i j => .int (i / 2 ^ j.toNat)) (fun d1 d2 d e => by
  unfold shrD at e
  split at e
  · split at e
    · cases e; exact ⟨_, _, rfl, rfl, by assumption, rfl⟩
    · cases e
  · cases e) fun _ _ _ _ _ => int_r
theorem o_neg : Op1 X fr (unaryOp .USub) negD := ⟨fun H F g x d1 d b r1 e => by
  cases d1 with
  | int i =>
    cases e
    exact ⟨_, un_neg, i, r_int r1, hit_here b int_r⟩
  | _ => cases e⟩
theorem o_add : Op2 X fr (binaryOp .Add) addD := ⟨fun H F g x y d1 d2 d b r1 r2 e => by
  cases d1 with
  | int i =>
    cases d2 with
    | int j =>
      cases e
      exact ⟨_, op_add, i, j, r_int r1, r_int r2, hit_here b int_r⟩
    | _ => cases e
  | tup xs =>
    cases d2 with
    | tup ys =>
      unfold addD at e
      dsimp only at e
      split at e
      · rename_i hl
        cases e
        have r2' := r2
        have r1' := r1
        obtain ⟨a, vs, rfl, h1, q1⟩ := r_tup r1
        obtain ⟨a2, vs2, rfl, h2, q2⟩ := r_tup r2
        refine ⟨_, op_catA, a, a2, vs, vs2, rfl, rfl, SqT.of h1, SqT.of h2, ?_, fun z => ?_, fun z1 z => ?_, fun _ _ p hp => hit_tup b (q1.append q2) hp⟩
        · rw [← q1.length, ← q2.length, line_eq]; exact hl
        · rw [q1.ne_nil.mp z, List.nil_append]; exact hit_here b r2'
        · rw [q2.ne_nil.mp z, List.append_nil]; exact hit_here b r1'
      · cases e
    | _ => cases e
  | lst xs =>
    cases d2 with
    | lst ys =>
      unfold addD at e
      dsimp only at e
      split at e
      · rename_i hl
        cases e
        obtain ⟨a, vs, rfl, f1, h1, q1⟩ := r_lst r1
        obtain ⟨a2, vs2, rfl, f2, h2, q2⟩ := r_lst r2
        exact ⟨_, op_cat, a, a2, vs, vs2, rfl, rfl, h1, h2, by rw [← q1.length, ← q2.length, line_eq]; exact hl, fun p hp => hit_lst b (q1.append q2) hp⟩
      · cases e
    | _ => cases e
  | _ => cases e⟩
theorem o_mul : Op2 X fr (binaryOp .Mult) mulD := ⟨fun H F g x y d1 d2 d b r1 r2 e => by
  cases d2 with
  | int k =>
    cases d1 with
    | int i =>
      unfold mulD at e
      dsimp only at e
      split at e
      · rename_i hl
        cases e
        exact ⟨_, op_mul, i, k, r_int r1, r_int r2, hl, hit_here b int_r⟩
      · cases e
    | lst xs =>
      unfold mulD at e
      dsimp only at e
      split at e
      · rename_i hl
        cases e
        obtain ⟨a, vs, rfl, f1, h1, q1⟩ := r_lst r1
        exact ⟨_, op_rep, a, k, vs, rfl, r_int r2, h1, hl.1, hl.2.1, by rw [← q1.length, line_eq]; exact hl.2.2, fun p hp => hit_lst b (q1.rep _) hp⟩
      · cases e
    | tup xs =>
      unfold mulD at e
      dsimp only at e
      split at e
      · rename_i hl
        cases e
        obtain ⟨a, vs, rfl, h1, q1⟩ := r_tup r1
        exact ⟨_, op_repT, a, k, vs, rfl, r_int r2, SqT.of h1, fun z => hl.1 (q1.ne_nil.mp z), hl.2.1, hl.2.2.1, by rw [← q1.length]; exact hl.2.2.2, fun p hp => hit_tup b (q1.rep _) hp⟩
      · cases e
    | _ => cases e
  | _ => cases d1 <;> cases e⟩
end

/-! ### == of data -/
mutual
def toPy : D → PyData
  | .non => .none
  | .bl b => .bool b
  | .int i => .int i
  | .str x => .str x
  | .tup xs => .tuple (toPys xs)
  | .lst xs => .list (toPys xs)
  | .dK _ _ => .dict []
  | .dT _ _ => .dict []
  | .bag => .dict []
def toPys : List D → List PyData
  | [] => []
  | d :: ds => toPy d :: toPys ds
end
mutual
theorem R.dp {K : PySem.W.Frag} {H : Hp} {F : Reg} {β : Option Addr} : ∀ (d : D) (v : V), (toPy d).plain = true → R H F β d v → Dp K H v (toPy d)
  | .non, v, _, h => by rw [r_non h]; exact .non
  | .bl b, v, _, h => by rw [r_bl h]; exact .bl b
  | .int i, v, _, h => by rw [r_int h]; exact .int i
  | .str x, v, _, h => by rw [r_str h]; exact .str x
  | .tup xs, v, p, h => by
    obtain ⟨a, vs, rfl, h1, q⟩ := r_tup h
    exact .tup (SqT.of h1) (Rs.dp xs vs p q)
  | .lst xs, v, p, h => by
    obtain ⟨a, vs, rfl, _, h1, q⟩ := r_lst h
    exact .lst (SqL.of h1) (Rs.dp xs vs p q)
  | .dK _ _, _, p, _ => by simp [toPy, PyData.plain] at p
  | .dT _ _, _, p, _ => by simp [toPy, PyData.plain] at p
  | .bag, _, p, _ => by simp [toPy, PyData.plain] at p
theorem Rs.dp {K : PySem.W.Frag} {H : Hp} {F : Reg} {β : Option Addr} : ∀ (ds : List D) (vs : List V), PyData.plainAll (toPys ds) = true → Rs H F β ds vs → DpAll K H vs (toPys ds)
  | [], vs, _, h => by unfold Rs at h; subst h; exact .nil
  | d :: ds, vs, p, h => by
    obtain ⟨v, r, rfl, h1, h2⟩ := h.uncons
    simp only [toPys, PyData.plainAll, Bool.and_eq_true] at p
    exact .cons (R.dp d v p.1 h1) (Rs.dp ds r p.2 h2)
end
def eqD (d e : D) : Option Bool := if (toPy d).plain = true ∧ (toPy e).plain = true ∧ min (toPy d).depth (toPy e).depth ≤ 60 then some (PyData.eqv (toPy d) (toPy e)) else none
def eqVD (d e : D) : Option D := (eqD d e).map .bl
def neVD (d e : D) : Option D := (eqD d e).map fun b => .bl (!b)
section
variable {X : Cx} {fr : Fr}
def rEqP (K : PySem.W.Frag) : R2 := fun x y H Q => ∃ d e, Dp K H x d ∧ Dp K H y e ∧ d.plain = true ∧ e.plain = true ∧ min d.depth e.depth ≤ 60 ∧ Q (.bl (PyData.eqv d e)) H
def rNeP (K : PySem.W.Frag) : R2 := fun x y H Q => ∃ d e, Dp K H x d ∧ Dp K H y e ∧ d.plain = true ∧ e.plain = true ∧ min d.depth e.depth ≤ 60 ∧ Q (.bl (!PyData.eqv d e)) H
theorem op_eqP (hu : X.A.units + 64 < cLine) : OpR X (compareOp .Eq) (rEqP X.K) := by
  intro pins s σ H x y v u Q I rx ry h
  obtain ⟨d, e, hd, he, sd, se, hz, q⟩ := h
  obtain ⟨as, r1⟩ := Dp.reads I d x v hd rx
  obtain ⟨bs, r2⟩ := Dp.reads I e y u he ry
  exact SeqAt.eq_plain r1 r2 sd se (by omega) ⟨.bl _, H, I, rfl, q⟩
theorem op_neP (hu : X.A.units + 64 < cLine) : OpR X (compareOp .NotEq) (rNeP X.K) := by
  intro pins s σ H x y v u Q I rx ry h
  obtain ⟨d, e, hd, he, sd, se, hz, q⟩ := h
  obtain ⟨as, r1⟩ := Dp.reads I d x v hd rx
  obtain ⟨bs, r2⟩ := Dp.reads I e y u he ry
  exact SeqAt.ne_plain r1 r2 sd se (by omega) ⟨.bl _, H, I, rfl, q⟩
theorem o_eq (hu : X.A.units + 64 < cLine) : Op2 X fr (compareOp .Eq) eqVD := ⟨fun H F g x y d1 d2 d b r1 r2 e => by
  unfold eqVD eqD at e
  split at e
  · rename_i hl
    cases e
    exact ⟨_, op_eqP hu, _, _, R.dp _ _ hl.1 r1, R.dp _ _ hl.2.1 r2, hl.1, hl.2.1, hl.2.2, hit_here b bl_r⟩
  · cases e⟩
theorem o_ne (hu : X.A.units + 64 < cLine) : Op2 X fr (compareOp .NotEq) neVD := ⟨fun H F g x y d1 d2 d b r1 r2 e => by
  unfold neVD eqD at e
  split at e
  · rename_i hl
    cases e
    exact ⟨_, op_neP hu, _, _, R.dp _ _ hl.1 r1, R.dp _ _ hl.2.1 r2, hl.1, hl.2.1, hl.2.2, hit_here b bl_r⟩
  · cases e⟩
end

/-! ### is None, is a truth -/
def isNonD : D → D → Option D
  | .non, .non => some (.bl true)
  | _, .non => some (.bl false)
  | _, _ => none
def notNonD : D → D → Option D
  | .non, .non => some (.bl false)
  | _, .non => some (.bl true)
  | _, _ => none
section
variable {X : Cx} {fr : Fr}
theorem r_notnon {H : Hp} {F : Reg} {β : Option Addr} {d : D} {v : V} (h : R H F β d v) (n : d ≠ .non) : v ≠ .non := by
  cases d with
  | non => exact absurd rfl n
  | bl _ => rw [r_bl h]; exact fun z => nomatch z
  | int _ => rw [r_int h]; exact fun z => nomatch z
  | str _ => rw [r_str h]; exact fun z => nomatch z
  | tup _ => obtain ⟨a, vs, rfl, _⟩ := r_tup h; exact fun z => nomatch z
  | lst _ => obtain ⟨a, vs, rfl, _⟩ := r_lst h; exact fun z => nomatch z
  | dK _ _ => obtain ⟨a, vs, rfl, _⟩ := r_dK h; exact fun z => nomatch z
  | dT _ _ => obtain ⟨a, vs, rfl, _⟩ := r_dT h; exact fun z => nomatch z
  | bag => obtain ⟨a, _, rfl⟩ := r_bag h; exact fun z => nomatch z
theorem o_isN : Op2 X fr (compareOp .Is) isNonD := ⟨fun H F g x y d1 d2 d b r1 r2 e => by
  cases d2 with
  | non =>
    refine ⟨_, op_isN, r_non r2, ?_⟩
    by_cases n : d1 = .non
    · subst n
      cases e
      rw [r_non r1]
      exact hit_here b bl_r
    · have e2 : d = .bl false := by
        cases d1 <;> first | exact absurd rfl n | exact (Option.some.inj e).symm
      subst e2
      rw [decide_eq_false (r_notnon r1 n)]
      exact hit_here b bl_r
  | _ => cases d1 <;> cases e⟩
theorem o_notN : Op2 X fr (compareOp .IsNot) notNonD := ⟨fun H F g x y d1 d2 d b r1 r2 e => by
  cases d2 with
  | non =>
    refine ⟨_, op_notN, r_non r2, ?_⟩
    by_cases n : d1 = .non
    · subst n
      cases e
      rw [r_non r1]
      exact hit_here b bl_r
    · have e2 : d = .bl true := by
        cases d1 <;> first | exact absurd rfl n | exact (Option.some.inj e).symm
      subst e2
      rw [decide_eq_false (r_notnon r1 n)]
      exact hit_here b bl_r
  | _ => cases d1 <;> cases e⟩
end
end VS

/-! VS5: what is walked; targets; list comprehensions. -/
namespace VS
open PySem PySem.Spec L2 RZ
open PyProof.Rows hiding St

/-! ### what stays while a walk goes -/
structure Kp (F : Reg) (H H' : Hp) : Prop where
  tup : ∀ a xs, H a = some (.tup xs) → H' a = some (.tup xs)
  reg : ∀ a u, F a → H a = some u → H' a = some u
theorem Kp.refl (F : Reg) (H : Hp) : Kp F H H := ⟨fun _ _ h => h, fun _ _ _ h => h⟩
theorem Kp.trans {F F1 : Reg} {H H1 H2 : Hp} (a : Kp F H H1) (b : Kp F1 H1 H2) (hF : ∀ x, F x → F1 x) : Kp F H H2 := ⟨fun x xs h => b.tup x xs (a.tup x xs h), fun x u f h => b.reg x u (hF x f) (a.reg x u f h)⟩
theorem Kp.of {β : Option Addr} {F F' : Reg} {H H' : Hp} {g : Bag} (b : BagOk β F H g) (e : Ext β F H F' H') : Kp F H H' := ⟨fun _ _ h => e.tupAt b h, fun a u f h => e.keep a u h (b.ne f)⟩
theorem R.kp {F F1 : Reg} {H H1 : Hp} {β : Option Addr} {d : D} {v : V} (h : R H F β d v) (k : Kp F H H1) (hF : ∀ x, F x → F1 x) : R H1 F1 β d v := R.mono k.tup (fun a f => ⟨hF a f, fun u h => k.reg a u f h⟩) d v h
theorem Rs.kp {F F1 : Reg} {H H1 : Hp} {β : Option Addr} {d : List D} {v : List V} (h : Rs H F β d v) (k : Kp F H H1) (hF : ∀ x, F x → F1 x) : Rs H1 F1 β d v := Rs.mono k.tup (fun a f => ⟨hF a f, fun u h => k.reg a u f h⟩) d v h

/-- a walk gives these -/
def WkOk (β : Option Addr) (F : Reg) (H : Hp) (J : It) (ds : List D) : Prop := ∃ G Y, Walk J ds.length G Y ∧ (∀ H1, Kp F H H1 → G H1) ∧
  ∀ i H1 F1 x H2, i < ds.length → Kp F H H1 → (∀ a, F a → F1 a) → (∀ b, β = some b → ∃ o, H1 b = some o) → Y i H1 x H2 → ∃ d, ds[i]? = some d ∧ Ext β F1 H1 F1 H2 ∧ (∀ b, β = some b → H2 b = H1 b) ∧ R H2 F1 β d x
abbrev IX := Slots → M (List D)
def GotI (fr : Fr) (F : Reg) (σ : St) (H : Hp) (R : It → Hp → Prop) : Out (List D) → Prop
  | .bad => False
  | .ok ds g' => ∀ J H' F', Ext fr.β F H F' H' → BagOk fr.β F' H' g' → WkOk fr.β F' H' J ds → R J H'
  | .exn c p g' => ∀ H' F' cls dd, Ext fr.β F H F' H' → BagOk fr.β F' H' g' → ExcAt fr F' H' c p cls dd → fr.W cls dd σ H'
def iV (fr : Fr) (ι : IX) : TI := fun σ H R => ∃ env F g, ER fr F env σ H g ∧ GotI fr F σ H R (ι env g)
def IV (X : Cx) (fr : Fr) (tg iter : Expr) (ι : IX) : Prop := PI X tg iter (iV fr ι)
section
variable {X : Cx} {fr : Fr} {pos : Pos} {e : Expr} {es : List Expr} {ρ : EX} {ρs : AX} {tg : Expr}
theorem gotEI {F : Reg} {σ : St} {H : Hp} {P : It → Hp → Prop} {env : Slots} {g : Bag} {f : D → M (List D)} (r : ER fr F env σ H g) (hg : GotI fr F σ H P (M.bnd (ρ env) f g))
    {Q' : VK} (k : ∀ d g' H' F' v, ρ env g = .ok d g' → Ext fr.β F H F' H' → ER fr F' env σ H' g' → R H' F' fr.β d v → GotI fr F' σ H' P (f d g') → Q' v H') : tE fr ρ σ H Q' := by
  refine ⟨env, F, g, r, ?_⟩
  unfold M.bnd at hg
  cases ho : ρ env g with
  | bad => rw [ho] at hg; exact hg
  | exn c p g' => rw [ho] at hg; exact hg
  | ok d g' =>
    rw [ho] at hg
    have hg : GotI fr F σ H P (f d g') := hg
    intro v H' F' ex b q
    refine k d g' H' F' v ho ex (r.ext ex b) q ?_
    cases h2 : f d g' with
    | bad => rw [h2] at hg; exact hg.elim
    | ok d2 g2 => rw [h2] at hg; exact fun J H2 F2 e2 b2 => hg J H2 F2 (ex.trans e2) b2
    | exn c p g2 => rw [h2] at hg; exact fun H2 F2 cls dd e2 b2 => hg H2 F2 cls dd (ex.trans e2) b2
theorem gotLI {F : Reg} {σ : St} {H : Hp} {P : It → Hp → Prop} {env : Slots} {g : Bag} {f : List D → M (List D)} (r : ER fr F env σ H g) (hg : GotI fr F σ H P (M.bnd (ρs env) f g))
    {Q' : List V → Hp → Prop} (k : ∀ d g' H' F' v, ρs env g = .ok d g' → Ext fr.β F H F' H' → ER fr F' env σ H' g' → Rs H' F' fr.β d v → GotI fr F' σ H' P (f d g') → Q' v H') : tA fr ρs σ H Q' := by
  refine ⟨env, F, g, r, ?_⟩
  unfold M.bnd at hg
  cases ho : ρs env g with
  | bad => rw [ho] at hg; exact hg
  | exn c p g' => rw [ho] at hg; exact hg
  | ok d g' =>
    rw [ho] at hg
    have hg : GotI fr F σ H P (f d g') := hg
    intro v H' F' ex b q
    refine k d g' H' F' v ho ex (r.ext ex b) q ?_
    cases h2 : f d g' with
    | bad => rw [h2] at hg; exact hg.elim
    | ok d2 g2 => rw [h2] at hg; exact fun J H2 F2 e2 b2 => hg J H2 F2 (ex.trans e2) b2
    | exn c p g2 => rw [h2] at hg; exact fun H2 F2 cls dd e2 b2 => hg H2 F2 cls dd (ex.trans e2) b2
theorem ofOI_got {o : Option (List D)} {F : Reg} {σ : St} {H : Hp} {P : It → Hp → Prop} {g : Bag} (h : GotI fr F σ H P (M.ofO o g)) : ∃ a, o = some a ∧ GotI fr F σ H P (.ok a g) := by
  cases o with
  | none => exact (show False from h).elim
  | some a => exact ⟨a, rfl, h⟩
/-- a walk whose items are read off a list of values -/
theorem wk_vals {β : Option Addr} {F : Reg} {H : Hp} {J : It} {ds : List D} {vs : List V} {G : Hp → Prop} (q : Rs H F β ds vs) (w : Walk J vs.length G (YAt vs)) (hG : ∀ H1, Kp F H H1 → G H1) : WkOk β F H J ds :=
  ⟨G, YAt vs, by rw [q.length]; exact w, hG, fun i H1 F1 x H2 hi k hF hb y => by
    obtain ⟨rfl, e⟩ := y
    obtain ⟨d, e2, r⟩ := q.getV e
    exact ⟨d, e2, Ext.refl _ _ _, fun _ _ => rfl, r.kp k hF⟩⟩
def itemsD : D → Option (List D)
  | .lst xs => some xs
  | .tup xs => some xs
  | _ => none
def seqI (ρ : EX) : IX := fun env => M.bnd (ρ env) fun d => M.ofO (itemsD d)
theorem iv_seq (he : EV X fr e ρ) : IV X fr tg e (seqI ρ) := by
  refine ⟨fun pins s σ H P I ⟨env, F, g, r, hg⟩ => ?_⟩
  have hz : ∃ d g', ρ env g = .ok d g' ∨ ∃ c p g', ρ env g = .exn c p g' := by
    cases ho : ρ env g with
    | bad => unfold seqI M.bnd at hg; rw [ho] at hg; exact hg.elim
    | ok d g' => exact ⟨d, g', .inl rfl⟩
    | exn c p g' => exact ⟨.non, g', .inr ⟨c, p, g', rfl⟩⟩
  have tupC : (∀ d g', ρ env g = .ok d g' → ∃ xs, d = .tup xs) → wpAny (model X.prog X.w) X.A (eval e X.env) (fun v s1 => wpAny (model X.prog X.w) X.A (pyIter v) (PIE X pins σ tg P) X.xe s1) X.xe s := fun hd => by
    refine (pi_tup (tg := tg) he).run pins s σ H P I (gotEI r hg fun d g1 H1 F1 v ho ex er q hq => ?_)
    obtain ⟨xs, rfl⟩ := hd d g1 ho
    obtain ⟨ys, ey, hq⟩ := ofOI_got hq
    cases ey
    obtain ⟨a, vs, rfl, h1, q1⟩ := r_tup q
    exact ⟨a, rfl, ⟨vs, SqT.of h1⟩, hq _ H1 F1 (Ext.refl _ _ _) er.bag (wk_vals q1 walk_tup fun H2 k => SqT.of (k.tup a vs h1))⟩
  have lstC : (∀ d g', ρ env g = .ok d g' → ∃ xs, d = .lst xs) → wpAny (model X.prog X.w) X.A (eval e X.env) (fun v s1 => wpAny (model X.prog X.w) X.A (pyIter v) (PIE X pins σ tg P) X.xe s1) X.xe s := fun hd => by
    refine (pi_list (tg := tg) he).run pins s σ H P I (gotEI r hg fun d g1 H1 F1 v ho ex er q hq => ?_)
    obtain ⟨xs, rfl⟩ := hd d g1 ho
    obtain ⟨ys, ey, hq⟩ := ofOI_got hq
    cases ey
    obtain ⟨a, vs, rfl, f1, h1, q1⟩ := r_lst q
    exact ⟨a, rfl, ⟨vs, SqL.of h1⟩, hq _ H1 F1 (Ext.refl _ _ _) er.bag (wk_vals q1 walk_list fun H2 k => SqL.of (k.reg a _ f1 h1))⟩
  obtain ⟨d, g', ho | ⟨c, p, g2, ho⟩⟩ := hz
  · unfold seqI M.bnd at hg
    rw [ho] at hg
    have hg : GotI fr F σ H P (M.ofO (itemsD d) g') := hg
    cases d with
    | tup xs => exact tupC fun d2 g2 h2 => by rw [ho] at h2; cases h2; exact ⟨xs, rfl⟩
    | lst xs => exact lstC fun d2 g2 h2 => by rw [ho] at h2; cases h2; exact ⟨xs, rfl⟩
    | _ => exact hg.elim
  · exact tupC fun d2 g3 h2 => by rw [ho] at h2; cases h2
/-- range(n), range(a, b) -/
def rngD (lo : Int) (n : Nat) : List D := (List.range n).map fun (i : Nat) => D.int (lo + (i : Int))
def rng1I (ρs : AX) : IX := fun env => M.bnd (ρs env) fun ds => M.ofO (match ds with
  | [.int j] => if -(2 ^ 62) ≤ j ∧ j < 2 ^ 62 then some (rngD 0 j.toNat) else none
  | _ => none)
def rng2I (ρs : AX) : IX := fun env => M.bnd (ρs env) fun ds => M.ofO (match ds with
  | [.int i, .int j] => if -(2 ^ 62) ≤ i ∧ i < 2 ^ 62 ∧ -(2 ^ 62) ≤ j ∧ j < 2 ^ 62 then some (rngD i (j - i).toNat) else none
  | _ => none)
theorem wk_range {β : Option Addr} {F : Reg} {H : Hp} {lo : Int} {n : Nat} : WkOk β F H (Itr lo n) (rngD lo n) := by
  refine ⟨fun _ => True, YFn fun i => .int (lo + i), by rw [show (rngD lo n).length = n by simp [rngD]]; exact walk_range, fun _ _ => trivial, fun i H1 F1 x H2 hi k hF hb y => ?_⟩
  obtain ⟨rfl, rfl⟩ := y
  have hi : i < n := by simpa [rngD] using hi
  exact ⟨.int (lo + i), by simp [rngD, hi], Ext.refl _ _ _, fun _ _ => rfl, int_r⟩
theorem iv_range1 {a : Expr} {p : Pos} (hg : Gl X "range") (hm : X.mg "range" = none) (ha : AV X fr [a] ρs) (hs : starEach [a] X.env = [(false, eval a X.env)] := by rfl) : IV X fr tg (.Call (.Name "range" p) [a] [] pos) (rng1I ρs) := by
  refine ⟨fun pins s σ H P I ⟨env, F, g, r, hgt⟩ => (pi_range1 (tg := tg) hg hm ha hs).run pins s σ H P I (gotLI r hgt fun ds g1 H1 F1 vs ho ex er q hq => ?_)⟩
  obtain ⟨ys, ey, hq⟩ := ofOI_got hq
  split at ey
  · rename_i j
    split at ey
    · rename_i hl
      cases ey
      obtain ⟨v, r2, rfl, h1, h2⟩ := q.uncons
      unfold Rs at h2
      subst h2
      rw [r_int h1]
      exact ⟨j, rfl, hl.1, hl.2, hq _ H1 F1 (Ext.refl _ _ _) er.bag wk_range⟩
    · cases ey
  · cases ey
theorem iv_range2 {a b : Expr} {p : Pos} (hg : Gl X "range") (hm : X.mg "range" = none) (ha : AV X fr [a, b] ρs) (hs : starEach [a, b] X.env = [(false, eval a X.env), (false, eval b X.env)] := by rfl) (hs2 : starEach [b] X.env = [(false, eval b X.env)] := by rfl) :
    IV X fr tg (.Call (.Name "range" p) [a, b] [] pos) (rng2I ρs) := by
  refine ⟨fun pins s σ H P I ⟨env, F, g, r, hgt⟩ => (pi_range2 (tg := tg) hg hm ha hs hs2).run pins s σ H P I (gotLI r hgt fun ds g1 H1 F1 vs ho ex er q hq => ?_)⟩
  obtain ⟨ys, ey, hq⟩ := ofOI_got hq
  split at ey
  · rename_i i j
    split at ey
    · rename_i hl
      cases ey
      obtain ⟨v, r2, rfl, h1, h2⟩ := q.uncons
      obtain ⟨v2, r3, rfl, h3, h4⟩ := h2.uncons
      unfold Rs at h4
      subst h4
      rw [r_int h1, r_int h3]
      exact ⟨i, j, rfl, hl, hq _ H1 F1 (Ext.refl _ _ _) er.bag wk_range⟩
    · cases ey
  · cases ey
/-- new pairs -/
theorem wk_pairs {β : Option Addr} {F : Reg} {H : Hp} {J : It} {ds : List D} {f1 f2 : Nat → Option V} {G : Hp → Prop} (w : Walk J ds.length G (YPair f1 f2)) (hG : ∀ H1, Kp F H H1 → G H1)
    (hd : ∀ i x y, i < ds.length → f1 i = some x → f2 i = some y → ∃ d1 d2, ds[i]? = some (.tup [d1, d2]) ∧ R H F β d1 x ∧ R H F β d2 y) : WkOk β F H J ds :=
  ⟨G, _, w, hG, fun i H1 F1 x H2 hi k hF hb y => by
    obtain ⟨T, x1, y1, rfl, hT, rfl, e1, e2⟩ := y
    obtain ⟨d1, d2, e, r1, r2⟩ := hd i x1 y1 hi e1 e2
    refine ⟨_, e, Ext.put hT, fun b eb => ?_, ?_⟩
    · obtain ⟨o, ho⟩ := hb b eb
      exact upd_ne (ne_of_none ho hT)
    · have kk : Kp F H (upd H1 T (.tup [x1, y1])) := ⟨fun a xs h => by rw [upd_ne (ne_of_none (k.tup a xs h) hT)]; exact k.tup a xs h, fun a u f h => by rw [upd_ne (ne_of_none (k.reg a u f h) hT)]; exact k.reg a u f h⟩
      unfold R
      exact ⟨T, _, rfl, upd_same, .cons (r1.kp kk hF) (.cons (r2.kp kk hF) .nil)⟩⟩
def enumD : Nat → List D → List D
  | _, [] => []
  | i, d :: ds => .tup [.int i, d] :: enumD (i + 1) ds
theorem enumD_length : ∀ (ds : List D) (i : Nat), (enumD i ds).length = ds.length
  | [], _ => rfl
  | d :: ds, i => by simp [enumD, enumD_length ds]
theorem enumD_get : ∀ (ds : List D) (i k : Nat), (enumD i ds)[k]? = ds[k]?.map fun d => .tup [.int ((i + k : Nat) : Int), d]
  | [], _, _ => by simp [enumD]
  | d :: ds, i, 0 => by simp [enumD]
  | d :: ds, i, k + 1 => by
    simp only [enumD, List.getElem?_cons_succ]
    rw [enumD_get ds (i + 1) k, show i + 1 + k = i + (k + 1) by omega]
def zipD : List D → List D → List D
  | d :: ds, e :: es => .tup [d, e] :: zipD ds es
  | _, _ => []
theorem zipD_length : ∀ (ds es : List D), (zipD ds es).length = min ds.length es.length
  | [], es => by simp [zipD]
  | d :: ds, [] => by simp [zipD]
  | d :: ds, e :: es => by simp only [zipD, List.length_cons, zipD_length ds es]; omega
theorem zipD_get : ∀ (ds es : List D) (k : Nat) (d e : D), ds[k]? = some d → es[k]? = some e → (zipD ds es)[k]? = some (.tup [d, e])
  | [], _, _, _, _, h, _ => by simp at h
  | d :: ds, [], _, _, _, _, h => by simp at h
  | d :: ds, e :: es, 0, _, _, h, h2 => by simp at h h2; subst h h2; rfl
  | d :: ds, e :: es, k + 1, _, _, h, h2 => by
    simp only [zipD, List.getElem?_cons_succ] at h h2 ⊢
    exact zipD_get ds es k _ _ h h2
def enumI (ρs : AX) : IX := fun env => M.bnd (ρs env) fun ds => M.ofO (match ds with
  | [.lst xs] => some (enumD 0 xs)
  | _ => none)
theorem iv_enum {p tpos : Pos} {elts : List Expr} {kk : Nat} (hg : Gl X "enumerate") (hm : X.mg "enumerate" = none) (ha : AV X fr [e] ρs) (hs : starEach [e] X.env = [(false, eval e X.env)] := by rfl) :
    IV X fr (.Tuple elts kk tpos) (.Call (.Name "enumerate" p) [e] [] pos) (enumI ρs) := by
  refine ⟨fun pins s σ H P I ⟨env, F, g, r, hgt⟩ => (pi_enum hg hm ha hs).run pins s σ H P I (gotLI r hgt fun ds g1 H1 F1 vs ho ex er q hq => ?_)⟩
  obtain ⟨ys, ey, hq⟩ := ofOI_got hq
  split at ey
  · rename_i xs
    cases ey
    obtain ⟨v, r2, rfl, h1, h2⟩ := q.uncons
    unfold Rs at h2
    subst h2
    obtain ⟨a, us, rfl, f1, ha1, q1⟩ := r_lst h1
    refine ⟨a, us, rfl, SqL.of ha1, hq _ H1 F1 (Ext.refl _ _ _) er.bag (wk_pairs (ds := enumD 0 xs) (by rw [enumD_length, q1.length]; exact walk_enum) (fun H2 k => SqL.of (k.reg a _ f1 ha1)) fun i x y hi e1 e2 => ?_)⟩
    obtain ⟨d, ed, rd⟩ := q1.getV e2
    refine ⟨.int i, d, by rw [enumD_get, ed]; simp, ?_, rd⟩
    cases e1
    exact int_r
  · cases ey
theorem walk_zipT {K : PySem.W.Frag} {a b : Addr} {xs ys : List V} {n : Nat} (hn : n = min xs.length ys.length) : Walk (ItzT K a b) n (fun H => SqT K H a xs ∧ SqT K H b ys) (YPair (fun i => xs[i]?) (fun i => ys[i]?)) := by
  subst hn
  refine ⟨fun i _ hi q => ?_, fun _ q => ⟨xs, ys, q.1, q.2, by omega⟩, fun i H v H' _ q y => ?_⟩
  · have h1 : i < xs.length := by omega
    have h2 : i < ys.length := by omega
    exact ⟨xs, ys, xs[i], ys[i], q.1, q.2, by simp [h1], by simp [h2]⟩
  · obtain ⟨T, x, z, h1, h2, h3, h4, h5⟩ := y
    exact ⟨T, x, z, h1, h2, h3, h4 xs q.1, h5 ys q.2⟩
def zipI (ρs : AX) : IX := fun env => M.bnd (ρs env) fun ds => M.ofO (match ds with
  | [.lst xs, .lst ys] => some (zipD xs ys)
  | [.tup xs, .tup ys] => some (zipD xs ys)
  | _ => none)
theorem iv_zip {e2 : Expr} {p tpos : Pos} {elts : List Expr} {kk : Nat} (hg : Gl X "zip") (hm : X.mg "zip" = none) (ha : AV X fr [e, e2] ρs)
    (hs : starEach [e, e2] X.env = (false, eval e X.env) :: starEach [e2] X.env := by rfl) (hpl : (backTo pos (starEach [e2] X.env)).any (·.1) = false := by rfl) :
    IV X fr (.Tuple elts kk tpos) (.Call (.Name "zip" p) [e, e2] [] pos) (zipI ρs) := by
  refine ⟨fun pins s σ H P I ⟨env, F, g, r, hgt⟩ => (pi_zipA hg hm ha hs hpl).run pins s σ H P I (gotLI r hgt fun ds g1 H1 F1 vs ho ex er q hq => ?_)⟩
  obtain ⟨ys, ey, hq⟩ := ofOI_got hq
  split at ey
  · rename_i xs zs
    cases ey
    obtain ⟨v, r2, rfl, h1, h2⟩ := q.uncons
    obtain ⟨v2, r3, rfl, h3, h4⟩ := h2.uncons
    unfold Rs at h4
    subst h4
    obtain ⟨a, us, rfl, f1, ha1, q1⟩ := r_lst h1
    obtain ⟨b, ws, rfl, f2, hb1, q2⟩ := r_lst h3
    refine ⟨a, b, us, ws, rfl, .inl ⟨SqL.of ha1, SqL.of hb1, hq _ H1 F1 (Ext.refl _ _ _) er.bag (wk_pairs (ds := zipD xs zs) (walk_zip (by rw [zipD_length, q1.length, q2.length])) (fun H2 k => ⟨SqL.of (k.reg a _ f1 ha1), SqL.of (k.reg b _ f2 hb1)⟩) fun i x y hi e1 e2 => ?_)⟩⟩
    obtain ⟨d, ed, rd⟩ := q1.getV e1
    obtain ⟨d2, ed2, rd2⟩ := q2.getV e2
    exact ⟨d, d2, zipD_get _ _ _ _ _ ed ed2, rd, rd2⟩
  · rename_i xs zs
    cases ey
    obtain ⟨v, r2, rfl, h1, h2⟩ := q.uncons
    obtain ⟨v2, r3, rfl, h3, h4⟩ := h2.uncons
    unfold Rs at h4
    subst h4
    obtain ⟨a, us, rfl, ha1, q1⟩ := r_tup h1
    obtain ⟨b, ws, rfl, hb1, q2⟩ := r_tup h3
    refine ⟨a, b, us, ws, rfl, .inr ⟨SqT.of ha1, SqT.of hb1, hq _ H1 F1 (Ext.refl _ _ _) er.bag (wk_pairs (ds := zipD xs zs) (walk_zipT (by rw [zipD_length, q1.length, q2.length])) (fun H2 k => ⟨SqT.of (k.tup a _ ha1), SqT.of (k.tup b _ hb1)⟩) fun i x y hi e1 e2 => ?_)⟩⟩
    obtain ⟨d, ed, rd⟩ := q1.getV e1
    obtain ⟨d2, ed2, rd2⟩ := q2.getV e2
    exact ⟨d, d2, zipD_get _ _ _ _ _ ed ed2, rd, rd2⟩
  · cases ey

/-! ### targets -/
/-- which slots get what -/
abbrev BX := D → Option (List (Nat × D))
def setsE (env : Slots) (l : List (Nat × D)) : Slots := l.foldl (fun e p => e.set p.1 (some p.2)) env
def setsV (σ : St) (l : List (Nat × V)) : St := l.foldl (fun e p => e.set p.1 (some p.2)) σ
abbrev Fits (H : Hp) (F : Reg) (β : Option Addr) : List (Nat × D) → List (Nat × V) → Prop := Paired fun p q => p.1 = q.1 ∧ R H F β p.2 q.2
/-- the slots outside vs are as they were -/
def SetIn (vs : List Nat) (σ σ' : St) : Prop := σ'.length = σ.length ∧ ∀ j, j ∉ vs → σ'[j]? = σ[j]?
theorem SetIn.refl (vs : List Nat) (σ : St) : SetIn vs σ σ := ⟨rfl, fun _ _ => rfl⟩
theorem SetIn.trans {vs : List Nat} {σ σ1 σ2 : St} (a : SetIn vs σ σ1) (b : SetIn vs σ1 σ2) : SetIn vs σ σ2 := ⟨b.1.trans a.1, fun j h => (b.2 j h).trans (a.2 j h)⟩
theorem wipe_get {σ : St} : ∀ (vs : List Nat) (j : Nat), (wipe σ vs)[j]? = if j ∈ vs ∧ j < σ.length then some none else σ[j]?
  | [], j => by simp [wipe]
  | v :: vs, j => by
    unfold wipe
    have ih := wipe_get (σ := σ) vs j
    by_cases hv : v = j
    · subst hv
      by_cases hl : v < σ.length
      · rw [List.getElem?_set_self (by rw [wipe_length]; exact hl), if_pos ⟨List.mem_cons_self, hl⟩]
      · rw [List.getElem?_eq_none (by simpa [wipe_length] using hl), if_neg (fun z => hl z.2), List.getElem?_eq_none (by simpa using hl)]
    · rw [List.getElem?_set_ne hv, ih]
      by_cases hm : j ∈ vs ∧ j < σ.length
      · rw [if_pos hm, if_pos ⟨List.mem_cons_of_mem _ hm.1, hm.2⟩]
      · rw [if_neg hm, if_neg (fun z => hm ⟨(List.mem_cons.mp z.1).resolve_left (fun e => hv e.symm), z.2⟩)]
theorem SetIn.wipe {vs : List Nat} {σ σ' : St} (h : SetIn vs σ σ') : L2.wipe σ' vs = L2.wipe σ vs := by
  apply List.ext_getElem?
  intro j
  rw [wipe_get, wipe_get, h.1]
  by_cases hm : j ∈ vs ∧ j < σ.length
  · rw [if_pos hm, if_pos hm]
  · rw [if_neg hm, if_neg hm]
    by_cases hj : j ∈ vs
    · have hl : ¬ j < σ.length := fun z => hm ⟨hj, z⟩
      rw [List.getElem?_eq_none (by rw [h.1]; exact Nat.le_of_not_lt hl), List.getElem?_eq_none (Nat.le_of_not_lt hl)]
    · exact h.2 j hj
theorem SetIn.ofWipe (vs : List Nat) (σ : St) : SetIn vs σ (L2.wipe σ vs) := ⟨wipe_length σ vs, fun j hj => by rw [wipe_get, if_neg (fun z => hj z.1)]⟩
def gV (fr : Fr) (bd : BX) : TG := fun v σ H Q => ∃ F d l, R H F fr.β d v ∧ bd d = some l ∧ ∀ lv, Fits H F fr.β l lv → Q (setsV σ lv) H
def BV (X : Cx) (fr : Fr) (tg : Expr) (bd : BX) : Prop := PG X tg (gV fr bd)
def nameB (i : Nat) : BX := fun d => some [(i, d)]
theorem ER.set {fr : Fr} {F : Reg} {env : Slots} {σ : St} {H : Hp} {g : Bag} (r : ER fr F env σ H g) {d : D} {v : V} (q : R H F fr.β d v) (i : Nat) : ER fr F (env.set i (some d)) (σ.set i (some v)) H g := by
  refine ⟨by simpa using r.len, fun j e h => ?_, r.bag⟩
  by_cases hj : j = i
  · subst hj
    have hl : j < env.length := by
      have := (List.getElem?_eq_some_iff.mp h).1
      simpa using this
    rw [List.getElem?_set_self hl] at h
    cases h
    exact ⟨v, by rw [List.getElem?_set_self (by rw [← r.len]; exact hl)], q⟩
  · rw [List.getElem?_set_ne (Ne.symm hj)] at h
    obtain ⟨u, e2, q2⟩ := r.val j e h
    exact ⟨u, by rw [List.getElem?_set_ne (Ne.symm hj)]; exact e2, q2⟩
theorem ER.sets {fr : Fr} {F : Reg} {H : Hp} {g : Bag} : ∀ {l : List (Nat × D)} {lv : List (Nat × V)} {env : Slots} {σ : St}, ER fr F env σ H g → Fits H F fr.β l lv → ER fr F (setsE env l) (setsV σ lv) H g
  | _, _, _, _, r, .nil => r
  | (i, d) :: l, (j, v) :: lv, env, σ, r, .cons h t => by
    have e : i = j := h.1
    subst e
    show ER fr F (setsE (env.set i (some d)) l) (setsV (σ.set i (some v)) lv) H g
    exact ER.sets (env := env.set i (some d)) (σ := σ.set i (some v)) (ER.set r h.2 i) t
theorem sets_in {vs : List Nat} {H : Hp} {F : Reg} {β : Option Addr} : ∀ {l : List (Nat × D)} {lv : List (Nat × V)} {σ : St}, (∀ p ∈ l, p.1 ∈ vs) → Fits H F β l lv → SetIn vs σ (setsV σ lv)
  | _, _, σ, _, .nil => SetIn.refl vs σ
  | (i, d) :: l, (j, v) :: lv, σ, hi, .cons h t => by
    have e : i = j := h.1
    subst e
    have hm : i ∈ vs := hi (i, d) List.mem_cons_self
    exact SetIn.trans (σ1 := σ.set i (some v)) ⟨by simp, fun j hj => List.getElem?_set_ne (fun z => hj (by rw [← z]; exact hm))⟩ (sets_in (fun p hp => hi p (List.mem_cons_of_mem _ hp)) t)
theorem bv_name {i : Nat} (h : PG X tg (gName i)) : BV X fr tg (nameB i) := by
  refine ⟨fun pins s σ H v u Q I rv ⟨F, d, l, q, eb, k⟩ => h.run pins s σ H v u Q I rv ?_⟩
  cases eb
  exact k [(i, v)] (.cons ⟨rfl, q⟩ .nil)
/-- several targets -/
abbrev BXs := List D → Option (List (Nat × D))
def gVs (fr : Fr) (bd : BXs) : TGs := fun v σ H Q => ∃ F d l, Rs H F fr.β d v ∧ bd d = some l ∧ ∀ lv, Fits H F fr.β l lv → Q (setsV σ lv) H
def BVs (X : Cx) (fr : Fr) (tgs : List Expr) (bd : BXs) : Prop := PGs X tgs (gVs fr bd)
def nilB : BXs := fun ds => match ds with
  | [] => some []
  | _ => none
def consB (b : BX) (bs : BXs) : BXs := fun ds => match ds with
  | d :: r => (b d).bind fun l => (bs r).map fun m => l ++ m
  | [] => none
def tupB (n : Nat) (bs : BXs) : BX := fun d => match d with
  | .tup xs => if xs.length = n then bs xs else none
  | _ => none
theorem bvs_nil : BVs X fr [] nilB := by
  refine ⟨fun pins s σ H v u Q I rv ⟨F, d, l, q, eb, k⟩ => pgs_nil.run pins s σ H v u Q I rv ?_⟩
  cases d with
  | nil =>
    cases eb
    unfold Rs at q
    exact ⟨q, k [] .nil⟩
  | cons _ _ => cases eb
theorem fits_append {H : Hp} {F : Reg} {β : Option Addr} : ∀ {l m : List (Nat × D)} {lv mv : List (Nat × V)}, Fits H F β l lv → Fits H F β m mv → Fits H F β (l ++ m) (lv ++ mv)
  | _, _, _, _, .nil, h => h
  | _, _, _, _, .cons h t, h2 => .cons h (fits_append t h2)
theorem bvs_cons {b : BX} {bs : BXs} (h : BV X fr e b) (h2 : BVs X fr es bs)
    (hs : (assignEach (e :: es) X.env).map (·.2) = assign e X.env :: (assignEach es X.env).map (·.2) := by rfl) : BVs X fr (e :: es) (consB b bs) := by
  refine ⟨fun pins s σ H v u Q I rv ⟨F, d, l, q, eb, k⟩ => (pgs_cons h h2 hs).run pins s σ H v u Q I rv ?_⟩
  cases d with
  | nil => cases eb
  | cons d ds =>
    obtain ⟨v1, vr, rfl, h1, h3⟩ := q.uncons
    have eb : (b d).bind (fun l => (bs ds).map fun m => l ++ m) = some l := eb
    cases e1 : b d with
    | none => rw [e1] at eb; cases eb
    | some l1 =>
      rw [e1] at eb
      cases e2 : bs ds with
      | none => rw [Option.bind_some, e2] at eb; cases eb
      | some l2 =>
        rw [Option.bind_some, e2] at eb
        have e3 : l1 ++ l2 = l := Option.some.inj eb
        subst e3
        refine ⟨v1, vr, rfl, F, d, l1, h1, e1, fun lv f1 => ⟨F, ds, l2, h3, e2, fun mv f2 => ?_⟩⟩
        have := k (lv ++ mv) (fits_append f1 f2)
        unfold setsV at this ⊢
        rwa [List.foldl_append] at this
theorem bv_tup {k : Nat} {n : Nat} {bs : BXs} (hc : X.calm = true) (h : BVs X fr es bs) (hn : (assignEach es X.env).length = n := by rfl) (hst : (assignEach es X.env).findIdx? (·.1) = none := by rfl) : BV X fr (.Tuple es k pos) (tupB n bs) := by
  refine ⟨fun pins s σ H v u Q I rv ⟨F, d, l, q, eb, k⟩ => (pg_tup hc h hn hst).run pins s σ H v u Q I rv ?_⟩
  cases d with
  | tup xs =>
    obtain ⟨a, us, rfl, h1, q1⟩ := r_tup q
    unfold tupB at eb
    dsimp only at eb
    split at eb
    · rename_i hl
      exact ⟨a, us, rfl, SqT.of h1, by rw [← q1.length]; exact hl, F, xs, l, q1, eb, k⟩
    · cases eb
  | _ => cases eb

/-- the slots of a target -/
def Sub (vs : List Nat) (bd : BX) : Prop := ∀ d l, bd d = some l → ∀ p ∈ l, p.1 ∈ vs
def Subs (vs : List Nat) (bd : BXs) : Prop := ∀ d l, bd d = some l → ∀ p ∈ l, p.1 ∈ vs
theorem sub_name {vs : List Nat} {i : Nat} (h : i ∈ vs) : Sub vs (nameB i) := fun d l e p hp => by
  cases e
  rw [List.mem_singleton.mp hp]
  exact h
theorem subs_nil {vs : List Nat} : Subs vs nilB := fun d l e p hp => by
  cases d with
  | nil => cases e; cases hp
  | cons _ _ => cases e
theorem subs_cons {vs : List Nat} {b : BX} {bs : BXs} (h : Sub vs b) (h2 : Subs vs bs) : Subs vs (consB b bs) := fun d l e p hp => by
  cases d with
  | nil => cases e
  | cons d ds =>
    have e : (b d).bind (fun l => (bs ds).map fun m => l ++ m) = some l := e
    cases e1 : b d with
    | none => rw [e1] at e; cases e
    | some l1 =>
      rw [e1] at e
      cases e2 : bs ds with
      | none => rw [Option.bind_some, e2] at e; cases e
      | some l2 =>
        rw [Option.bind_some, e2] at e
        have e3 : l1 ++ l2 = l := Option.some.inj e
        subst e3
        exact (List.mem_append.mp hp).elim (h d l1 e1 p) (h2 ds l2 e2 p)
theorem sub_tup {vs : List Nat} {n : Nat} {bs : BXs} (h : Subs vs bs) : Sub vs (tupB n bs) := fun d l e p hp => by
  cases d with
  | tup xs =>
    unfold tupB at e
    dsimp only at e
    split at e
    · exact h xs l e p hp
    · cases e
  | _ => cases e
/-! ### new things -/
def New (β : Option Addr) (H : Hp) (F' : Reg) (H' : Hp) (d : D) (v : V) : Prop := match d with
  | .lst xs => ∃ a vs, v = .ref a ∧ H a = none ∧ ¬ F' a ∧ some a ≠ β ∧ H' a = some (.lst vs) ∧ Rs H' F' β xs vs
  | .dK ks xs => ∃ a kv, v = .ref a ∧ H a = none ∧ ¬ F' a ∧ some a ≠ β ∧ H' a = some (.dK kv) ∧ ks = kv.map (·.1) ∧ Rs H' F' β xs (kv.map (·.2))
  | .dT ks xs => ∃ a kv, v = .ref a ∧ H a = none ∧ ¬ F' a ∧ some a ≠ β ∧ H' a = some (.dT kv) ∧ ks = kv.map (·.1) ∧ Rs H' F' β xs (kv.map (·.2))
  | _ => False
theorem New.mono {β : Option Addr} {H H2 H' : Hp} {F' : Reg} {d : D} {v : V} (h : New β H2 F' H' d v) (k : ∀ a, H2 a = none → H a = none) : New β H F' H' d v := by
  cases d with
  | lst xs => obtain ⟨a, vs, e, n, r⟩ := h; exact ⟨a, vs, e, k a n, r⟩
  | dK ks xs => obtain ⟨a, vs, e, n, r⟩ := h; exact ⟨a, vs, e, k a n, r⟩
  | dT ks xs => obtain ⟨a, vs, e, n, r⟩ := h; exact ⟨a, vs, e, k a n, r⟩
  | _ => exact h
/-- what is held on to besides -/
theorem putReg {β : Option Addr} {F F' : Reg} {H H' : Hp} {g : Bag} {a : Addr} {o : HO} (e : Ext β F H F' H') (b : BagOk β F' H' g) (n : H a = none) (nb : some a ≠ β) (h : H' a = some o) : Ext β F H (fun x => F' x ∨ x = a) H' ∧ BagOk β (fun x => F' x ∨ x = a) H' g := by
  refine ⟨⟨fun x f => .inl (e.mono x f), fun x f => f.elim (e.new x) fun q => .inr (by rw [q]; exact n), e.keep, e.there⟩, ⟨fun x f => f.elim (b.live x) fun q z => ?_, fun x q => ⟨fun f => f.elim (b.at_ x q).1 fun z => nb (by rw [← z]; exact q.symm), (b.at_ x q).2⟩⟩⟩
  rw [q, h] at z
  cases z
theorem New.r {β : Option Addr} {F F' : Reg} {H H' : Hp} {g : Bag} {d : D} {v : V} (h : New β H F' H' d v) (e : Ext β F H F' H') (b : BagOk β F' H' g) : ∃ F2, Ext β F H F2 H' ∧ BagOk β F2 H' g ∧ R H' F2 β d v := by
  cases d with
  | lst xs =>
    obtain ⟨a, vs, rfl, n, f, nb, h1, r⟩ := h
    obtain ⟨e2, b2⟩ := putReg e b n nb h1
    refine ⟨_, e2, b2, ?_⟩
    unfold R
    exact ⟨a, vs, rfl, .inr rfl, h1, r.kp (Kp.refl F' H') fun _ f => .inl f⟩
  | dK ks xs =>
    obtain ⟨a, kv, rfl, n, f, nb, h1, ek, r⟩ := h
    obtain ⟨e2, b2⟩ := putReg e b n nb h1
    refine ⟨_, e2, b2, ?_⟩
    unfold R
    exact ⟨a, kv, rfl, .inr rfl, .inl h1, ek, r.kp (Kp.refl F' H') fun _ f => .inl f⟩
  | dT ks xs =>
    obtain ⟨a, kv, rfl, n, f, nb, h1, ek, r⟩ := h
    obtain ⟨e2, b2⟩ := putReg e b n nb h1
    refine ⟨_, e2, b2, ?_⟩
    unfold R
    exact ⟨a, kv, rfl, .inr rfl, .inl h1, ek, r.kp (Kp.refl F' H') fun _ f => .inl f⟩
  | _ => exact h.elim
def GotN (fr : Fr) (F : Reg) (σ : St) (H : Hp) (Q : VK) : Out D → Prop
  | .bad => False
  | .ok d g' => ∀ v H' F', Ext fr.β F H F' H' → BagOk fr.β F' H' g' → New fr.β H F' H' d v → Q v H'
  | .exn c p g' => ∀ H' F' cls dd, Ext fr.β F H F' H' → BagOk fr.β F' H' g' → ExcAt fr F' H' c p cls dd → fr.W cls dd σ H'
theorem GotN.of {F : Reg} {σ : St} {H : Hp} {Q : VK} {o : Out D} (h : Got fr F σ H Q o) : GotN fr F σ H Q o := by
  cases o with
  | bad => exact h
  | exn c p g => exact h
  | ok d g =>
    intro v H' F' e b n
    obtain ⟨F2, e2, b2, r⟩ := n.r e b
    exact h v H' F2 e2 b2 r
theorem GotN.later {F F1 : Reg} {σ : St} {H H1 : Hp} {Q : VK} {o : Out D} (h : GotN fr F σ H Q o) (e : Ext fr.β F H F1 H1) : GotN fr F1 σ H1 Q o := by
  cases o with
  | bad => exact h
  | exn c p g => exact fun H' F' cls dd e2 b2 => h H' F' cls dd (e.trans e2) b2
  | ok d g => exact fun v H' F' e2 b2 n => h v H' F' (e.trans e2) b2 (n.mono e.there)
theorem gotN_bnd {α : Type} {m : M α} {f : α → M D} {F : Reg} {σ : St} {H : Hp} {Q : VK} {g : Bag} (h : GotN fr F σ H Q (M.bnd m f g)) : (∃ a g', m g = .ok a g' ∧ GotN fr F σ H Q (f a g')) ∨ ∃ c p g', m g = .exn c p g' ∧ GotN fr F σ H Q (.exn c p g') := by
  unfold M.bnd at h
  cases q : m g with
  | bad => rw [q] at h; exact h.elim
  | ok a g' => rw [q] at h; exact .inl ⟨a, g', rfl, h⟩
  | exn c p g' => rw [q] at h; exact .inr ⟨c, p, g', rfl, h⟩
/-! ### list comprehensions -/
def wipeE (env : Slots) : List Nat → Slots
  | [] => env
  | v :: vs => (wipeE env vs).set v none
theorem wipeE_length (env : Slots) : ∀ vs : List Nat, (wipeE env vs).length = env.length
  | [] => rfl
  | v :: vs => by unfold wipeE; rw [List.length_set, wipeE_length env vs]
theorem wipeE_some {env : Slots} {i : Nat} {x : D} : ∀ {vs : List Nat}, (wipeE env vs)[i]? = some (some x) → env[i]? = some (some x) ∧ i ∉ vs
  | [], h => ⟨h, by simp⟩
  | v :: vs, h => by
    unfold wipeE at h
    by_cases hi : v = i
    · subst hi
      by_cases hv : v < (wipeE env vs).length
      · rw [List.getElem?_set_self hv] at h; cases h
      · rw [List.getElem?_eq_none (by simpa using hv)] at h; cases h
    · rw [List.getElem?_set_ne hi] at h
      obtain ⟨h1, h2⟩ := wipeE_some h
      exact ⟨h1, by simp only [List.mem_cons, not_or]; exact ⟨fun e => hi e.symm, h2⟩⟩
theorem ER.wipe {F : Reg} {env : Slots} {σ : St} {H : Hp} {g : Bag} (r : ER fr F env σ H g) (vs : List Nat) : ER fr F (wipeE env vs) (L2.wipe σ vs) H g :=
  ⟨by rw [wipeE_length, wipe_length]; exact r.len, fun i d h => by
    obtain ⟨h1, h2⟩ := wipeE_some h
    obtain ⟨v, e, q⟩ := r.val i d h1
    exact ⟨v, by rw [wipe_get, if_neg (fun z => h2 z.1)]; exact e, q⟩, r.bag⟩
/-- the turns -/
def lcGo (env : Slots) (bd : BX) (τ : TX) (ρ : EX) : List D → M (List D)
  | [] => M.ret []
  | d :: ds => match bd d with
    | none => M.bad
    | some l => M.bnd (noX (τ (setsE env l))) fun b => if b then M.bnd (noX (ρ (setsE env l))) fun y => M.bnd (lcGo env bd τ ρ ds) fun ys => M.ret (y :: ys) else lcGo env bd τ ρ ds
def lcE (ι : IX) (bd : BX) (τ : TX) (ρ : EX) (vs : List Nat) : EX := fun env => M.bnd (ι env) fun ds => if ds.length ≤ line then M.bnd (lcGo (wipeE env vs) bd τ ρ ds) fun ys => M.ret (.lst ys) else M.bad
theorem noX_noexn {α : Type} {m : M α} {g : Bag} : ∀ c p g', noX m g ≠ .exn c p g' := fun c p g' h => by
  unfold noX at h
  cases q : m g with
  | bad => rw [q] at h; cases h
  | ok b g2 => rw [q] at h; cases h
  | exn c p g2 => rw [q] at h; cases h
theorem bnd_noexn {α γ : Type} {m : M α} {f : α → M γ} {g : Bag} (h1 : ∀ c p g', m g ≠ .exn c p g') (h2 : ∀ a g1 c p g', f a g1 ≠ .exn c p g') : ∀ c p g', M.bnd m f g ≠ .exn c p g' := fun c p g' h => by
  unfold M.bnd at h
  cases q : m g with
  | bad => rw [q] at h; cases h
  | ok b g2 => rw [q] at h; exact h2 b g2 c p g' h
  | exn c p g2 => exact h1 c p g2 q
theorem lcGo_noexn (env : Slots) (bd : BX) (τ : TX) (ρ : EX) : ∀ (ds : List D) (g : Bag) (c : Nat) (p : D) (g' : Bag), lcGo env bd τ ρ ds g ≠ .exn c p g'
  | [], g, c, p, g' => fun h => by cases h
  | d :: ds, g, c, p, g' => fun h => by
    unfold lcGo at h
    cases hb : bd d with
    | none => rw [hb] at h; cases h
    | some l =>
      rw [hb] at h
      refine bnd_noexn noX_noexn (fun b g1 => ?_) c p g' h
      cases b with
      | false => exact lcGo_noexn env bd τ ρ ds g1
      | true =>
        rw [if_pos rfl]
        exact bnd_noexn noX_noexn (fun y g2 => bnd_noexn (lcGo_noexn env bd τ ρ ds g2) fun ys g3 c p g' h => by cases h)
/-- an outcome, its list behind acc -/
def preO (acc : List D) : Out (List D) → Out (List D)
  | .ok ys g => .ok (acc ++ ys) g
  | o => o
def yesT : TX := fun _ => M.ret true
def TVs (X : Cx) (fr : Fr) (ifs : List Expr) (τ : TX) : Prop := PTs X ifs (tT fr τ)
theorem tvs_nil : TVs X fr [] yesT := ⟨fun pins s σ H Q I ⟨env, F, g, r, hg⟩ => pts_nil.run pins s σ H Q I (hg H F (Ext.refl _ _ _) r.bag)⟩
theorem tvs_one {c : Expr} {τ : TX} (h : TV X fr c τ) : TVs X fr [c] τ := pts_one h
/-- what a turn of a comprehension knows -/
structure LcAt (fr : Fr) (env : Slots) (σ : St) (bd : BX) (τ : TX) (ρ : EX) (ds : List D) (F0 : Reg) (H0 : Hp) (Dd : Addr) (tot : Out (List D)) (i : Nat) (H : Hp) : Prop where
  ex : ∃ F1 g1 acc accV, H Dd = some (.lst accV) ∧ ¬ F1 Dd ∧ Rs H F1 fr.β acc accV ∧ ER fr F1 env σ H g1 ∧ (∀ a, F0 a → F1 a) ∧ (∀ a, F1 a → F0 a ∨ H0 a = none) ∧ acc.length ≤ i ∧ i ≤ ds.length ∧ preO acc (lcGo env bd τ ρ (ds.drop i) g1) = tot
  keep : ∀ a o, H0 a = some o → some a ≠ fr.β → H a = some o
  there : ∀ a, H a = none → H0 a = none
theorem noX_ok {α : Type} {m : M α} {g g' : Bag} {a : α} (h : noX m g = .ok a g') : m g = .ok a g' := by
  unfold noX at h
  cases q : m g with
  | bad => rw [q] at h; cases h
  | ok b g2 => rw [q] at h; exact h
  | exn c p g2 => rw [q] at h; cases h
theorem bnd_ok {α γ : Type} {m : M α} {f : α → M γ} {g : Bag} (h : M.bnd m f g ≠ .bad) (hx : ∀ c p g', m g ≠ .exn c p g') : ∃ a g', m g = .ok a g' ∧ M.bnd m f g = f a g' := by
  unfold M.bnd at h ⊢
  cases q : m g with
  | bad => rw [q] at h; exact absurd rfl h
  | ok b g2 => exact ⟨b, g2, rfl, rfl⟩
  | exn c p g2 => exact absurd q (hx c p g2)
theorem got_bnd {α : Type} {m : M α} {f : α → M D} {F : Reg} {σ : St} {H : Hp} {Q : VK} {g : Bag} (h : Got fr F σ H Q (M.bnd m f g)) : (∃ a g', m g = .ok a g' ∧ Got fr F σ H Q (f a g')) ∨ ∃ c p g', m g = .exn c p g' ∧ Got fr F σ H Q (.exn c p g') := by
  unfold M.bnd at h
  cases q : m g with
  | bad => rw [q] at h; exact h.elim
  | ok a g' => rw [q] at h; exact .inl ⟨a, g', rfl, h⟩
  | exn c p g' => rw [q] at h; exact .inr ⟨c, p, g', rfl, h⟩
theorem preO_bad {acc : List D} {o : Out (List D)} {ys : List D} {g : Bag} (h : preO acc o = .ok ys g) : o ≠ .bad := fun z => by
  rw [z] at h
  cases h
theorem ER.putD {F : Reg} {env : Slots} {σ : St} {H : Hp} {g : Bag} (r : ER fr F env σ H g) {Dd : Addr} {l : List V} {o : HO} (hn : ¬ F Dd) (hl : H Dd = some (.lst l)) (nb : some Dd ≠ fr.β) : Kp F H (upd H Dd o) ∧ ER fr F env σ (upd H Dd o) g := by
  have k : Kp F H (upd H Dd o) := ⟨fun a xs h => by
    rw [upd_ne (fun z => by rw [z, hl] at h; cases h)]; exact h, fun a u f h => by rw [upd_ne (fun z => hn (by rw [← z]; exact f))]; exact h⟩
  refine ⟨k, r.len, fun i d h => ?_, fun a f z => ?_, fun b e => ⟨(r.bag.at_ b e).1, ?_⟩⟩
  · obtain ⟨v, e, q⟩ := r.val i d h
    exact ⟨v, e, q.kp k fun _ f => f⟩
  · rw [upd_ne (fun z => hn (by rw [← z]; exact f))] at z
    exact r.bag.live a f z
  · rw [upd_ne (fun z => nb (by rw [← z]; exact e.symm))]
    exact (r.bag.at_ b e).2
/-- the comprehension behind its walk -/
def lcP (g : TG) (tt : TT) (te : TE) (vs : List Nat) (σ : St) (Q : VK) : It → Hp → Prop := fun J H1 => ∀ D, H1 D = none → ∃ W : Nat → Nat → Hp → Prop, (∃ m, W 0 m (upd H1 D (.lst []))) ∧ ∀ i m H, W i m H →
  (J.stop i H ∧ Q (.ref D) H) ∨ (J.go i H ∧ ∃ Nx : Hp → Prop, (∀ H', Nx H' → ∃ m', m' < m ∧ W (i + 1) m' H') ∧ ∀ x H', J.yld i H x H' → g x (L2.wipe σ vs) H' fun σ2 H2 => L2.wipe σ2 vs = L2.wipe σ vs ∧ tt σ2 H2 fun b H3 =>
    if b = true then te σ2 H3 fun y H4 => ∃ acc, H4 D = some (.lst acc) ∧ acc.length < sizeLine ∧ Nx (upd H4 D (.lst (acc ++ [y]))) else Nx H3)
/-- the comprehension's reading, from its parts' outcomes -/
theorem lc_gotI {σ : St} {H : Hp} {Q : VK} {ι : IX} {bd : BX} {τ : TX} {ρ : EX} {vs : List Nat} {env : Slots} {F : Reg} {g : Bag} (r : ER fr F env σ H g) (hvs : ∀ d l, bd d = some l → ∀ p ∈ l, p.1 ∈ vs) (hg : GotN fr F σ H Q (lcE ι bd τ ρ vs env g)) : GotI fr F σ H (lcP (gV fr bd) (tT fr τ) (tE fr ρ) vs σ Q) (ι env g) := by
  rcases gotN_bnd hg with ⟨ds, g0, ho, hg⟩ | ⟨c, p, g', ho, hg⟩
  case inr => rw [ho]; exact hg
  rw [ho]
  by_cases hl : ds.length ≤ line
  case neg => rw [if_neg hl] at hg; exact (show False from hg).elim
  rw [if_pos hl] at hg
  intro J H0 F0 ex0 b0 wk Dd hD
  obtain ⟨G, Y, w, hG, hY⟩ := wk
  have er0 := (r.ext ex0 b0).wipe vs
  have nbD : some Dd ≠ fr.β := fun z => by
    have q := (b0.at_ Dd z.symm).2
    rw [hD] at q
    cases q
  obtain ⟨ys, gf, htot, hQ⟩ : ∃ ys gf, lcGo (wipeE env vs) bd τ ρ ds g0 = .ok ys gf ∧ GotN fr F σ H Q (.ok (.lst ys) gf) := by
    rcases gotN_bnd hg with ⟨ys, gf, hz, hg⟩ | ⟨c, p, g', hz, hg⟩
    · exact ⟨ys, gf, hz, hg⟩
    · exact absurd hz (lcGo_noexn _ _ _ _ _ _ _ _ _)
  have keepKp : ∀ {H1 : Hp}, (∀ a o, H0 a = some o → some a ≠ fr.β → H1 a = some o) → Kp F0 H0 H1 := fun hk => ⟨fun a xs h => hk a _ h (b0.notup (.inl h) fun _ z => nomatch z), fun a u f h => hk a u h (b0.ne f)⟩
  refine lc_it w (LcAt fr (wipeE env vs) (L2.wipe σ vs) bd τ ρ ds F0 H0 Dd (.ok ys gf)) ?_ ?_ ?_ ?_
  · -- the start
    refine ⟨⟨F0, g0, [], [], upd_same, fun f => b0.live Dd f hD, .nil, er0.ext (Ext.put hD) (b0.put hD), fun _ h => h, fun _ h => .inl h, Nat.le_refl _, Nat.zero_le _, ?_⟩, fun a o h _ => by rw [upd_ne (ne_of_none h hD)]; exact h, fun a h => ?_⟩
    · simp only [List.drop_zero, htot, preO, List.nil_append]
    · by_cases e : a = Dd
      · rw [e]; exact hD
      · rw [upd_ne e] at h; exact h
  · -- the walked stands
    rintro i H1 hi ⟨_, hk, _⟩
    exact hG H1 (keepKp hk)
  · -- a turn
    rintro i x H1 H2 hi ⟨⟨F1, g1, acc, accV, hDd, hnD, ra, er, hF, hn, hle, _, hpre⟩, hk, ht⟩ hy
    obtain ⟨d, ed, ex2, hb2, rd⟩ := hY i H1 F1 x H2 hi (keepKp hk) hF (fun b e => ⟨_, (er.bag.at_ b e).2⟩) hy
    have hdrop : ds.drop i = d :: ds.drop (i + 1) := by
      have := List.drop_eq_getElem_cons hi
      rw [this]
      congr 1
      exact Option.some.inj ((List.getElem?_eq_getElem hi).symm.trans ed)
    rw [hdrop] at hpre
    unfold lcGo at hpre
    cases hbd : bd d with
    | none =>
      rw [hbd] at hpre
      exact absurd rfl (preO_bad hpre)
    | some l =>
      rw [hbd] at hpre
      dsimp only at hpre
      obtain ⟨b, g2, ht2, e2⟩ := bnd_ok (preO_bad hpre) noX_noexn
      rw [e2] at hpre
      have ht2 := noX_ok ht2
      have b2 : BagOk fr.β F1 H2 g1 := er.bag.ext ex2 hb2 fun a f z => er.bag.live a f (ex2.there a z)
      have er2 := er.ext ex2 b2
      refine ⟨F1, d, l, rd, hbd, fun lv fits => ⟨((SetIn.ofWipe vs σ).trans (sets_in (hvs d l hbd) fits)).wipe, setsE (wipeE env vs) l, F1, g1, er2.sets fits, ?_⟩⟩
      have er' := er2.sets fits
      rw [ht2]
      intro H3 F3 ex3 b3
      have hD2 : H2 Dd = some (.lst accV) := ex2.keep Dd _ hDd nbD
      have hD3 : H3 Dd = some (.lst accV) := ex3.keep Dd _ hD2 nbD
      have hn3 : ¬ F3 Dd := fun f => (ex3.new Dd f).elim hnD fun z => by rw [hD2] at z; cases z
      have er3 := er2.ext ex3 b3
      have ra3 := (ra.ext er.bag ex2).ext b2 ex3
      have hk3 : ∀ a o, H0 a = some o → some a ≠ fr.β → H3 a = some o := fun a o h n => ex3.keep a o (ex2.keep a o (hk a o h n) n) n
      have ht3 : ∀ a, H3 a = none → H0 a = none := fun a h => ht a (ex2.there a (ex3.there a h))
      have hF3 : ∀ a, F0 a → F3 a := fun a f => ex3.mono a (hF a f)
      have hn3' : ∀ a, F3 a → F0 a ∨ H0 a = none := fun a f => (ex3.new a f).elim (hn a) fun z => .inr (ht a (ex2.there a z))
      cases b with
      | false =>
        refine iteF ⟨⟨F3, g2, acc, accV, hD3, hn3, ra3, er3, hF3, hn3', Nat.le_succ_of_le hle, hi, hpre⟩, hk3, ht3⟩
      | true =>
        rw [if_pos rfl] at hpre
        obtain ⟨y, g3, hr, e3⟩ := bnd_ok (preO_bad hpre) noX_noexn
        rw [e3] at hpre
        have hr := noX_ok hr
        refine iteT ⟨setsE (wipeE env vs) l, F3, g2, er'.ext ex3 b3, ?_⟩
        rw [hr]
        intro v H4 F4 ex4 b4 ry
        have hD4 : H4 Dd = some (.lst accV) := ex4.keep Dd _ hD3 nbD
        have hn4 : ¬ F4 Dd := fun f => (ex4.new Dd f).elim hn3 fun z => by rw [hD3] at z; cases z
        obtain ⟨kp, er5⟩ := (er3.ext ex4 b4).putD (o := .lst (accV ++ [v])) hn4 hD4 nbD
        refine ⟨accV, hD4, ?_, ⟨F4, g3, acc ++ [y], accV ++ [v], upd_same, hn4, ?_, er5, fun a f => ex4.mono a (hF3 a f), fun a f => (ex4.new a f).elim (hn3' a) fun z => .inr (ht3 a z), ?_, hi, ?_⟩, fun a o h n => ?_, fun a h => ?_⟩
        · rw [line_eq, ← ra3.length]
          omega
        · exact ((ra3.ext b3 ex4).append (.one ry)).kp kp fun _ f => f
        · rw [List.length_append, List.length_singleton]
          omega
        · rw [← hpre]
          unfold M.bnd
          cases hz : lcGo (wipeE env vs) bd τ ρ (ds.drop (i + 1)) g3 with
          | bad => rfl
          | exn c p g' => rfl
          | ok zs gz =>
            show Out.ok (acc ++ [y] ++ zs) gz = Out.ok (acc ++ (y :: zs)) gz
            rw [List.append_assoc]
            rfl
        · rw [upd_ne (fun z => by rw [z, hD] at h; cases h)]
          exact ex4.keep a o (hk3 a o h n) n
        · by_cases e : a = Dd
          · rw [e]; exact hD
          · rw [upd_ne e] at h
            exact ht3 a (ex4.there a h)
  · -- the end
    rintro H1 ⟨⟨F1, g1, acc, accV, hDd, hnD, ra, er, hF, hn, _, _, hpre⟩, hk, ht⟩
    rw [List.drop_length] at hpre
    unfold lcGo M.ret preO at hpre
    dsimp only at hpre
    rw [List.append_nil] at hpre
    cases hpre
    exact hQ (.ref Dd) H1 F1 (ex0.trans ⟨hF, hn, hk, ht⟩) er.bag ⟨Dd, accV, rfl, ex0.there Dd hD, hnD, nbD, hDd, ra⟩
theorem lc_redN {σ : St} {H : Hp} {Q : VK} {ι : IX} {bd : BX} {τ : TX} {ρ : EX} {vs : List Nat} {env : Slots} {F : Reg} {g : Bag} (r : ER fr F env σ H g) (hvs : ∀ d l, bd d = some l → ∀ p ∈ l, p.1 ∈ vs) (hg : GotN fr F σ H Q (lcE ι bd τ ρ vs env g)) : tLc (iV fr ι) (gV fr bd) (tT fr τ) (tE fr ρ) vs σ H Q := ⟨env, F, g, r, lc_gotI r hvs hg⟩
theorem lc_red {σ : St} {H : Hp} {Q : VK} {ι : IX} {bd : BX} {τ : TX} {ρ : EX} {vs : List Nat} {env : Slots} {F : Reg} {g : Bag} (r : ER fr F env σ H g) (hvs : ∀ d l, bd d = some l → ∀ p ∈ l, p.1 ∈ vs) (hg : Got fr F σ H Q (lcE ι bd τ ρ vs env g)) : tLc (iV fr ι) (gV fr bd) (tT fr τ) (tE fr ρ) vs σ H Q := lc_redN r hvs (GotN.of hg)
variable {scope : Scope} {own : List (Str × Nat)} {ifs : List Expr} {elt iter : Expr}
theorem ev_lc {ι : IX} {bd : BX} {τ : TX} {ρ : EX} (hc : X.calm = true) (hN : X.N.Nodup) (hi : IV X fr tg iter ι) (ok : BlkOk X.N X.env.scope scope own)
    (hg : ∀ (s : Shared) (H : Hp) (C : Addr) (cl : List (Str × Addr)) (fp : List Addr), BV (X.blk s H scope (compEnvC scope cl C X.env) fp) fr tg bd) (ht : ∀ (s : Shared) (H : Hp) (C : Addr) (cl : List (Str × Addr)) (fp : List Addr), TVs (X.blk s H scope (compEnvC scope cl C X.env) fp) fr ifs τ)
    (he : ∀ (s : Shared) (H : Hp) (C : Addr) (cl : List (Str × Addr)) (fp : List Addr), EV (X.blk s H scope (compEnvC scope cl C X.env) fp) fr elt ρ) (hvs : ∀ d l, bd d = some l → ∀ p ∈ l, p.1 ∈ own.map (·.2)) (hs : ∀ x, foldedSetIterable iter X.env x = pure x := by intro _; rfl) :
    EV X fr (.ListComp elt [⟨tg, iter, ifs, 0⟩] scope pos) (lcE ι bd τ ρ (own.map (·.2))) :=
  ev_of _ _ _ (pe_lc hc hN hi ok hg ht he hs) fun σ H Q env F g r hg => lc_red r hvs hg
end
end VS

/-! VS6: statements: slots that own their lists (nobody else holds them), the rest frozen. -/
namespace VS
open PySem PySem.Spec L2 RZ
open PyProof.Rows hiding St

/-- a def's frame: what stood at its entry -/
structure Fs where
  fr : Fr
  F0 : Reg
  H0 : Hp
def isC : D → Bool
  | .lst _ => true
  | .dK _ _ => true
  | .dT _ _ => true
  | _ => false
/-- the slot alone holds it -/
def Own (fs : Fs) (H : Hp) (F : Reg) (d : D) (v : V) : Prop := match d with
  | .lst xs => ∃ a vs, v = .ref a ∧ ¬ F a ∧ fs.H0 a = none ∧ H a = some (.lst vs) ∧ Rs H F fs.fr.β xs vs
  | .dK ks xs => ∃ a kv, v = .ref a ∧ ¬ F a ∧ fs.H0 a = none ∧ H a = some (.dK kv) ∧ ks = kv.map (·.1) ∧ Rs H F fs.fr.β xs (kv.map (·.2))
  | .dT ks xs => ∃ a kv, v = .ref a ∧ ¬ F a ∧ fs.H0 a = none ∧ H a = some (.dT kv) ∧ ks = kv.map (·.1) ∧ Rs H F fs.fr.β xs (kv.map (·.2))
  | d => R H F fs.fr.β d v
structure SR (fs : Fs) (O : List Nat) (F : Reg) (env : Slots) (σ : St) (H : Hp) (g : Bag) : Prop where
  len : env.length = σ.length
  val : ∀ (i : Nat) (d : D), env[i]? = some (some d) → ∃ v, σ[i]? = some (some v) ∧ (i ∉ O → R H F fs.fr.β d v) ∧ (i ∈ O → Own fs H F d v)
  sep : ∀ (i j : Nat) (d e : D) (a : Addr), i ∈ O → j ∈ O → i ≠ j → env[i]? = some (some d) → env[j]? = some (some e) → isC d = true → isC e = true → σ[i]? = some (some (.ref a)) → σ[j]? = some (some (.ref a)) → False
  bag : BagOk fs.fr.β F H g
  ext : Ext fs.fr.β fs.F0 fs.H0 F H
  nb : ∀ b, fs.fr.β = some b → fs.H0 b ≠ none
section
variable {fs : Fs} {O : List Nat} {F F' : Reg} {env : Slots} {σ : St} {H H' : Hp} {g g' : Bag}
/-- an owned thing: its address -/
theorem Own.at_ {d : D} {v : V} (h : Own fs H F d v) (c : isC d = true) : ∃ a o, v = .ref a ∧ ¬ F a ∧ fs.H0 a = none ∧ H a = some o ∧ (∀ xs, o ≠ .tup xs) := by
  cases d with
  | lst xs => obtain ⟨a, vs, e, f, n, h, _⟩ := h; exact ⟨a, _, e, f, n, h, fun _ z => nomatch z⟩
  | dK ks xs => obtain ⟨a, vs, e, f, n, h, _⟩ := h; exact ⟨a, _, e, f, n, h, fun _ z => nomatch z⟩
  | dT ks xs => obtain ⟨a, vs, e, f, n, h, _⟩ := h; exact ⟨a, _, e, f, n, h, fun _ z => nomatch z⟩
  | _ => cases c
theorem Own.plain {d : D} {v : V} (c : isC d = false) : Own fs H F d v ↔ R H F fs.fr.β d v := by
  cases d <;> first | exact Iff.rfl | cases c
/-- held on to by F' -/
theorem Own.frz {d : D} {v : V} (h : Own fs H F d v) (hF : ∀ a, F a → F' a) (ha : ∀ a, v = .ref a → isC d = true → F' a) : R H F' fs.fr.β d v := by
  cases d with
  | lst xs =>
    obtain ⟨a, vs, e, f, n, h1, r⟩ := h
    unfold R
    exact ⟨a, vs, e, ha a e rfl, h1, r.kp (Kp.refl F H) hF⟩
  | dK ks xs =>
    obtain ⟨a, vs, e, f, n, h1, ek, r⟩ := h
    unfold R
    exact ⟨a, vs, e, ha a e rfl, .inl h1, ek, r.kp (Kp.refl F H) hF⟩
  | dT ks xs =>
    obtain ⟨a, vs, e, f, n, h1, ek, r⟩ := h
    unfold R
    exact ⟨a, vs, e, ha a e rfl, .inl h1, ek, r.kp (Kp.refl F H) hF⟩
  | _ => exact R.kp h (Kp.refl F H) hF
/-- it stays: the heap keeps what is frozen and the thing itself -/
theorem Own.kp {d : D} {v : V} (h : Own fs H F d v) (k : Kp F H H') (hF : ∀ a, F a → F' a) (ha : ∀ a o, v = .ref a → isC d = true → H a = some o → H' a = some o ∧ ¬ F' a) : Own fs H' F' d v := by
  cases d with
  | lst xs =>
    obtain ⟨a, vs, e, f, n, h1, r⟩ := h
    obtain ⟨h2, f2⟩ := ha a _ e rfl h1
    exact ⟨a, vs, e, f2, n, h2, r.kp k hF⟩
  | dK ks xs =>
    obtain ⟨a, vs, e, f, n, h1, ek, r⟩ := h
    obtain ⟨h2, f2⟩ := ha a _ e rfl h1
    exact ⟨a, vs, e, f2, n, h2, ek, r.kp k hF⟩
  | dT ks xs =>
    obtain ⟨a, vs, e, f, n, h1, ek, r⟩ := h
    obtain ⟨h2, f2⟩ := ha a _ e rfl h1
    exact ⟨a, vs, e, f2, n, h2, ek, r.kp k hF⟩
  | _ => exact R.kp h k hF
theorem SR.neB (r : SR fs O F env σ H g) {a : Addr} (h : fs.H0 a = none) : some a ≠ fs.fr.β := fun z => r.nb a z.symm h
/-- what the slots of O hold -/
def held (O : List Nat) (env : Slots) (σ : St) : Reg := fun a => ∃ i d, i ∈ O ∧ env[i]? = some (some d) ∧ isC d = true ∧ σ[i]? = some (some (.ref a))
/-- some slots are frozen -/
theorem SR.freeze (r : SR fs O F env σ H g) {O' : List Nat} (h : ∀ i, i ∈ O' → i ∈ O) : SR fs O' (fun a => F a ∨ held (O.filter (· ∉ O')) env σ a) env σ H g := by
  have hO : ∀ {i : Nat}, i ∈ O.filter (· ∉ O') ↔ i ∈ O ∧ i ∉ O' := fun {i} => by simp
  have own : ∀ {a : Addr}, held (O.filter (· ∉ O')) env σ a → ∃ o, H a = some o ∧ fs.H0 a = none ∧ ¬ F a := fun {a} ⟨i, d, hi, e, c, es⟩ => by
    obtain ⟨v, ev, _, ho⟩ := r.val i d e
    rw [es] at ev
    cases ev
    obtain ⟨b, o, eb, nf, n0, hb, _⟩ := (ho (hO.mp hi).1).at_ c
    cases eb
    exact ⟨o, hb, n0, nf⟩
  refine ⟨r.len, fun i d e => ?_, fun i j d e a hi hj => r.sep i j d e a (h i hi) (h j hj), ⟨fun a f => ?_, fun b e => ⟨fun f => ?_, (r.bag.at_ b e).2⟩⟩, ⟨fun a f => .inl (r.ext.mono a f), fun a f => ?_, r.ext.keep, r.ext.there⟩, r.nb⟩
  · obtain ⟨v, ev, h1, h2⟩ := r.val i d e
    refine ⟨v, ev, fun hi => ?_, fun hi => ?_⟩
    · by_cases ho : i ∈ O
      · exact (h2 ho).frz (fun a f => .inl f) fun a ea c => .inr ⟨i, d, hO.mpr ⟨ho, hi⟩, e, c, by rw [ev, ea]⟩
      · exact (h1 ho).kp (Kp.refl F H) fun a f => .inl f
    · refine (h2 (h i hi)).kp (Kp.refl F H) (fun a f => .inl f) fun a o ea c ha => ⟨ha, fun f => ?_⟩
      obtain ⟨b, o', eb, nf, _, _, _⟩ := (h2 (h i hi)).at_ c
      rw [ea] at eb
      cases eb
      rcases f with f | ⟨j, d', hj, e', c', es'⟩
      · exact nf f
      · refine r.sep i j d d' a (h i hi) (hO.mp hj).1 (fun z => (hO.mp hj).2 (by rw [← z]; exact hi)) e e' c c' (by rw [ev, ea]) es'
  · rcases f with f | f
    · exact r.bag.live a f
    · obtain ⟨o, ho, _⟩ := own f
      rw [ho]
      exact fun z => nomatch z
  · rcases f with f | f
    · exact (r.bag.at_ b e).1 f
    · obtain ⟨o, _, n0, _⟩ := own f
      exact r.nb b e n0
  · rcases f with f | f
    · exact r.ext.new a f
    · obtain ⟨o, _, n0, _⟩ := own f
      exact .inr n0
/-- the slots as an expression sees them: all frozen -/
theorem SR.er (r : SR fs O F env σ H g) : ER fs.fr (fun a => F a ∨ held O env σ a) env σ H g := by
  have q := r.freeze (O' := []) (fun _ z => nomatch z)
  have e : O.filter (· ∉ ([] : List Nat)) = O := by simp
  rw [e] at q
  exact ⟨q.len, fun i d e => let ⟨v, ev, h1, _⟩ := q.val i d e; ⟨v, ev, h1 (fun z => nomatch z)⟩, q.bag⟩
/-- behind an expression: nothing of ours has changed -/
theorem SR.back (r : SR fs O F env σ H g) {F2 : Reg} (e : Ext fs.fr.β (fun a => F a ∨ held O env σ a) H F2 H') (b : BagOk fs.fr.β F2 H' g') : SR fs O F env σ H' g' ∧ Kp F H H' := by
  have kp : Kp F H H' := ⟨fun a xs h => e.keep a _ h (r.bag.notup (.inl h) fun _ z => nomatch z), fun a u f h => e.keep a u h (r.bag.ne f)⟩
  refine ⟨⟨r.len, fun i d ed => ?_, r.sep, ⟨fun a f z => r.bag.live a f (e.there a z), fun x q => ⟨(r.bag.at_ x q).1, (b.at_ x q).2⟩⟩, ⟨r.ext.mono, r.ext.new, fun a o h n => e.keep a o (r.ext.keep a o h n) n, fun a h => r.ext.there a (e.there a h)⟩, r.nb⟩, kp⟩
  obtain ⟨v, ev, h1, h2⟩ := r.val i d ed
  refine ⟨v, ev, fun hi => (h1 hi).kp kp fun _ f => f, fun hi => (h2 hi).kp kp (fun _ f => f) fun a o ea c ha => ?_⟩
  obtain ⟨b', o', eb, nf, n0, _, _⟩ := (h2 hi).at_ c
  rw [ea] at eb
  cases eb
  exact ⟨e.keep a o ha (r.neB n0), nf⟩
/-- the owned slots out of sight -/
def hide (O : List Nat) (env : Slots) : Slots := wipeE env O
theorem SR.erH (r : SR fs O F env σ H g) : ER fs.fr F (hide O env) σ H g :=
  ⟨by unfold hide; rw [wipeE_length]; exact r.len, fun i d h => by
    obtain ⟨h1, h2⟩ := wipeE_some h
    obtain ⟨v, e, q, _⟩ := r.val i d h1
    exact ⟨v, e, q h2⟩, r.bag⟩
theorem SR.backH (r : SR fs O F env σ H g) (e : Ext fs.fr.β F H F' H') (b : BagOk fs.fr.β F' H' g') : SR fs O F' env σ H' g' ∧ Kp F H H' := by
  have kp : Kp F H H' := Kp.of r.bag e
  refine ⟨⟨r.len, fun i d ed => ?_, r.sep, b, r.ext.trans e, r.nb⟩, kp⟩
  obtain ⟨v, ev, h1, h2⟩ := r.val i d ed
  refine ⟨v, ev, fun hi => (h1 hi).kp kp e.mono, fun hi => (h2 hi).kp kp e.mono fun a o ea c ha => ?_⟩
  obtain ⟨b', o', eb, nf, n0, _, _⟩ := (h2 hi).at_ c
  rw [ea] at eb
  cases eb
  exact ⟨e.keep a o ha (r.neB n0), fun f => (e.new a f).elim nf fun z => by rw [ha] at z; cases z⟩
/-- a slot is filled with a frozen value -/
theorem SR.set (r : SR fs O F env σ H g) {d : D} {v : V} (q : R H F fs.fr.β d v) (i : Nat) {O' : List Nat} (hO : ∀ j, j ≠ i → (j ∈ O' ↔ j ∈ O)) (hi : i ∈ O' → isC d = false) : SR fs O' F (env.set i (some d)) (σ.set i (some v)) H g := by
  refine ⟨by simpa using r.len, fun j e h => ?_, fun j k e e' a hj hk ne h h' c c' es es' => ?_, r.bag, r.ext, r.nb⟩
  · by_cases hj : j = i
    · subst hj
      have hl : j < env.length := by
        have := (List.getElem?_eq_some_iff.mp h).1
        simpa using this
      rw [List.getElem?_set_self hl] at h
      cases h
      exact ⟨v, by rw [List.getElem?_set_self (by rw [← r.len]; exact hl)], fun _ => q, fun hm => (Own.plain (hi hm)).mpr q⟩
    · rw [List.getElem?_set_ne (Ne.symm hj)] at h
      obtain ⟨u, e2, q1, q2⟩ := r.val j e h
      exact ⟨u, by rw [List.getElem?_set_ne (Ne.symm hj)]; exact e2, fun hm => q1 fun z => hm ((hO j hj).mpr z), fun hm => q2 ((hO j hj).mp hm)⟩
  · have nej : j ≠ i := fun z => by
      subst z
      have hl : j < env.length := by
        have := (List.getElem?_eq_some_iff.mp h).1
        simpa using this
      rw [List.getElem?_set_self hl] at h
      cases h
      rw [hi hj] at c
      cases c
    have nek : k ≠ i := fun z => by
      subst z
      have hl : k < env.length := by
        have := (List.getElem?_eq_some_iff.mp h').1
        simpa using this
      rw [List.getElem?_set_self hl] at h'
      cases h'
      rw [hi hk] at c'
      cases c'
    rw [List.getElem?_set_ne (Ne.symm nej)] at h es
    rw [List.getElem?_set_ne (Ne.symm nek)] at h' es'
    exact r.sep j k e e' a ((hO j nej).mp hj) ((hO k nek).mp hk) ne h h' c c' es es'
/-- a slot is filled with a thing that nobody else holds -/
theorem SR.setN (r : SR fs O F env σ H g) {d : D} {a : Addr} (q : Own fs H F d (.ref a)) (i : Nat) {O' : List Nat} (hO : ∀ j, j ≠ i → (j ∈ O' ↔ j ∈ O)) (hi : i ∈ O') (hn : ∀ j e, j ∈ O → j ≠ i → env[j]? = some (some e) → isC e = true → σ[j]? = some (some (.ref a)) → False) :
    SR fs O' F (env.set i (some d)) (σ.set i (some (.ref a))) H g := by
  have at_i : ∀ {j : Nat} {e : D} {w : V}, j = i → (env.set i (some d))[j]? = some (some e) → (σ.set i (some (V.ref a)))[j]? = some (some w) → e = d ∧ w = .ref a := fun {j e w} hj h h2 => by
    subst hj
    have hl : j < env.length := by
      have := (List.getElem?_eq_some_iff.mp h).1
      simpa using this
    rw [List.getElem?_set_self hl] at h
    rw [List.getElem?_set_self (by rw [← r.len]; exact hl)] at h2
    cases h
    cases h2
    exact ⟨rfl, rfl⟩
  refine ⟨by simpa using r.len, fun j e h => ?_, fun j k e e' b hj hk ne h h' c c' es es' => ?_, r.bag, r.ext, r.nb⟩
  · by_cases hj : j = i
    · subst hj
      have hl : j < env.length := by
        have := (List.getElem?_eq_some_iff.mp h).1
        simpa using this
      rw [List.getElem?_set_self hl] at h
      cases h
      exact ⟨.ref a, by rw [List.getElem?_set_self (by rw [← r.len]; exact hl)], fun hm => absurd hi hm, fun _ => q⟩
    · rw [List.getElem?_set_ne (Ne.symm hj)] at h
      obtain ⟨u, e2, q1, q2⟩ := r.val j e h
      exact ⟨u, by rw [List.getElem?_set_ne (Ne.symm hj)]; exact e2, fun hm => q1 fun z => hm ((hO j hj).mpr z), fun hm => q2 ((hO j hj).mp hm)⟩
  · by_cases nej : j = i
    · obtain ⟨rfl, eb⟩ := at_i nej h es
      cases eb
      have nek : k ≠ i := fun z => ne (nej.trans z.symm)
      rw [List.getElem?_set_ne (Ne.symm nek)] at h' es'
      exact hn k e' ((hO k nek).mp hk) nek h' c' es'
    · rw [List.getElem?_set_ne (Ne.symm nej)] at h es
      by_cases nek : k = i
      · obtain ⟨rfl, eb⟩ := at_i nek h' es'
        cases eb
        exact hn j e ((hO j nej).mp hj) nej h c es
      · rw [List.getElem?_set_ne (Ne.symm nek)] at h' es'
        exact r.sep j k e e' b ((hO j nej).mp hj) ((hO k nek).mp hk) ne h h' c c' es es'
end

/-! ### flows -/
inductive Fl where
  | nx (env : Slots) | brk (env : Slots) | ct (env : Slots) | rt (d : D)
abbrev SX := Slots → M Fl
def GotS (fs : Fs) (L O' : List Nat) (F : Reg) (H : Hp) (Dn : Ends) : Out Fl → Prop
  | .bad => False
  | .ok (.nx env') g' => ∀ σ' H' F', SR fs O' F' env' σ' H' g' → Kp F H H' → (∀ a, F a → F' a) → Dn.nx σ' H'
  | .ok (.brk env') g' => ∀ σ' H' F', SR fs L F' env' σ' H' g' → Kp F H H' → (∀ a, F a → F' a) → Dn.bk σ' H'
  | .ok (.ct env') g' => ∀ σ' H' F', SR fs L F' env' σ' H' g' → Kp F H H' → (∀ a, F a → F' a) → Dn.ct σ' H'
  | .ok (.rt d) g' => ∀ v H' F', Ext fs.fr.β fs.F0 fs.H0 F' H' → BagOk fs.fr.β F' H' g' → R H' F' fs.fr.β d v → Kp F H H' → Dn.rt v H'
  | .exn c p g' => ∀ σ' H' F' cls dd, Ext fs.fr.β fs.F0 fs.H0 F' H' → BagOk fs.fr.β F' H' g' → ExcAt fs.fr F' H' c p cls dd → fs.fr.W cls dd σ' H'
def tS (fs : Fs) (L O O' : List Nat) (ρ : SX) : TS := fun Dn σ H => ∃ F env g, SR fs O F env σ H g ∧ GotS fs L O' F H Dn (ρ env g)
def SV (X : Cx) (fs : Fs) (L O : List Nat) (st : Stmt) (ρ : SX) (O' : List Nat) : Prop := PS X st (tS fs L O O' ρ)
def SVs (X : Cx) (fs : Fs) (L O : List Nat) (st : List Stmt) (ρ : SX) (O' : List Nat) : Prop := PSs X st (tS fs L O O' ρ)
section
variable {X : Cx} {fs : Fs} {L O O1 O2 O' : List Nat} {st : Stmt} {rest : List Stmt} {ρ ρ' : SX} {pos : Pos} {e : Expr} {σ : St} {H : Hp} {F : Reg} {env : Slots} {g : Bag} {Dn : Ends}
theorem gotS_later {F1 : Reg} {H1 : Hp} {o : Out Fl} (h : GotS fs L O' F H Dn o) (k : Kp F H H1) (hF : ∀ a, F a → F1 a) : GotS fs L O' F1 H1 Dn o := by
  cases o with
  | bad => exact h
  | exn c p g' => exact h
  | ok fl g' =>
    cases fl with
    | nx env' => exact fun σ' H' F' r k2 hF2 => h σ' H' F' r (k.trans k2 hF) fun a f => hF2 a (hF a f)
    | brk env' => exact fun σ' H' F' r k2 hF2 => h σ' H' F' r (k.trans k2 hF) fun a f => hF2 a (hF a f)
    | ct env' => exact fun σ' H' F' r k2 hF2 => h σ' H' F' r (k.trans k2 hF) fun a f => hF2 a (hF a f)
    | rt d => exact fun v H' F' e b q k2 => h v H' F' e b q (k.trans k2 hF)
/-- two parts -/
theorem gotS_bnd {α : Type} {m : M α} {f : α → M Fl} (h : GotS fs L O' F H Dn (M.bnd m f g)) : (∃ a g', m g = .ok a g' ∧ GotS fs L O' F H Dn (f a g')) ∨ ∃ c p g', m g = .exn c p g' ∧ GotS fs L O' F H Dn (.exn c p g') := by
  unfold M.bnd at h
  cases q : m g with
  | bad => rw [q] at h; exact h.elim
  | ok a g' => rw [q] at h; exact .inl ⟨a, g', rfl, h⟩
  | exn c p g' => rw [q] at h; exact .inr ⟨c, p, g', rfl, h⟩

/-! ### blocks -/
def nxS : SX := fun env => M.ret (.nx env)
def seqS (a b : SX) : SX := fun env => M.bnd (a env) fun fl => match fl with
  | .nx env' => b env'
  | o => M.ret o
theorem svs_nil : SVs X fs L O [] nxS O := ⟨fun pins s σ H D I ⟨F, env, g, r, hg⟩ => pss_nil.run pins s σ H D I (hg σ H F r (Kp.refl F H) fun _ f => f)⟩
theorem svs_cons (h1 : SV X fs L O st ρ O1) (h2 : SVs X fs L O1 rest ρ' O2) : SVs X fs L O (st :: rest) (seqS ρ ρ') O2 := by
  refine ⟨fun pins s σ H D I ⟨F, env, g, r, hg⟩ => (pss_cons h1 h2).run pins s σ H D I ⟨F, env, g, r, ?_⟩⟩
  rcases gotS_bnd hg with ⟨fl, g', ho, hg⟩ | ⟨c, p, g', ho, hg⟩
  · rw [ho]
    cases fl with
    | nx env' => exact fun σ' H' F' r' k hF => ⟨F', env', g', r', gotS_later hg k hF⟩
    | brk env' => exact hg
    | ct env' => exact hg
    | rt d => exact hg
  · rw [ho]; exact hg
theorem svs_one (h1 : SV X fs L O st ρ O1) : SVs X fs L O [st] ρ O1 :=
  ⟨fun pins s σ H D I ⟨F, env, g, r, hg⟩ => (pss_one h1).run pins s σ H D I ⟨F, env, g, r, hg⟩⟩
/-- fewer slots own at the start, or are said to own at the end -/
theorem SR.pre (r : SR fs O F env σ H g) (h : ∀ i, i ∈ O1 → i ∈ O) : ∃ F1, SR fs O1 F1 env σ H g ∧ ∀ a, F a → F1 a := ⟨_, r.freeze h, fun _ f => .inl f⟩
theorem tS_pre (h : ∀ i, i ∈ O1 → i ∈ O) (w : tS fs L O O' ρ Dn σ H) : tS fs L O1 O' ρ Dn σ H := by
  obtain ⟨F, env, g, r, hg⟩ := w
  obtain ⟨F1, r1, hF⟩ := r.pre h
  exact ⟨F1, env, g, r1, gotS_later hg (Kp.refl F H) hF⟩
theorem gotS_post (h : ∀ i, i ∈ O2 → i ∈ O1) {o : Out Fl} (w : GotS fs L O2 F H Dn o) : GotS fs L O1 F H Dn o := by
  cases o with
  | bad => exact w
  | exn c p g' => exact w
  | ok fl g' =>
    cases fl with
    | nx env' =>
      intro σ' H' F' r k hF
      obtain ⟨F1, r1, hF1⟩ := r.pre h
      exact w σ' H' F1 r1 k fun a f => hF1 a (hF a f)
    | brk env' => exact w
    | ct env' => exact w
    | rt d => exact w
theorem sv_weak (h : SV X fs L O1 st ρ O2) (h1 : ∀ i, i ∈ O1 → i ∈ O) (h2 : ∀ i, i ∈ O' → i ∈ O2) : SV X fs L O st ρ O' := by
  refine ⟨fun pins s σ H D I w => h.run pins s σ H D I ?_⟩
  obtain ⟨F, env, g, r, hg⟩ := tS_pre h1 w
  exact ⟨F, env, g, r, gotS_post h2 hg⟩
theorem svs_weak {sts : List Stmt} (h : SVs X fs L O1 sts ρ O2) (h1 : ∀ i, i ∈ O1 → i ∈ O) (h2 : ∀ i, i ∈ O' → i ∈ O2) : SVs X fs L O sts ρ O' := by
  refine ⟨fun pins s σ H D I w => h.run pins s σ H D I ?_⟩
  obtain ⟨F, env, g, r, hg⟩ := tS_pre h1 w
  exact ⟨F, env, g, r, gotS_post h2 hg⟩

/-! ### small statements -/
theorem sv_pass : SV X fs L O (.Pass pos) nxS O := ⟨fun pins s σ H D I ⟨F, env, g, r, hg⟩ => ps_pass.run pins s σ H D I (hg σ H F r (Kp.refl F H) fun _ f => f)⟩
def brkS : SX := fun env => M.ret (.brk env)
def ctS : SX := fun env => M.ret (.ct env)
theorem sv_break (h : ∀ i, i ∈ L → i ∈ O) : SV X fs L O (.Break pos) brkS O' := ⟨fun pins s σ H D I w => ps_break.run pins s σ H D I (by
  obtain ⟨F, env, g, r, hg⟩ := tS_pre h w
  exact hg σ H F r (Kp.refl F H) fun _ f => f)⟩
theorem sv_continue (h : ∀ i, i ∈ L → i ∈ O) : SV X fs L O (.Continue pos) ctS O' := ⟨fun pins s σ H D I w => ps_continue.run pins s σ H D I (by
  obtain ⟨F, env, g, r, hg⟩ := tS_pre h w
  exact hg σ H F r (Kp.refl F H) fun _ f => f)⟩
/-- an expression in a statement -/
theorem gotS_exp {ρ : EX} {f : D → M Fl} {Q : VK} (r : SR fs O F env σ H g) (hg : GotS fs L O' F H Dn (M.bnd (ρ env) f g))
    (k : ∀ d g' H' F2 v, SR fs O F env σ H' g' → Kp F H H' → Ext fs.fr.β (fun a => F a ∨ held O env σ a) H F2 H' → BagOk fs.fr.β F2 H' g' → R H' F2 fs.fr.β d v → GotS fs L O' F H' Dn (f d g') → Q v H') : Got fs.fr (fun a => F a ∨ held O env σ a) σ H Q (ρ env g) := by
  rcases gotS_bnd hg with ⟨d, g', ho, hg⟩ | ⟨c, p, g', ho, hg⟩
  · rw [ho]
    intro v H' F2 ex b q
    obtain ⟨r', kp⟩ := r.back ex b
    exact k d g' H' F2 v r' kp ex b q (gotS_later hg kp fun _ f => f)
  · rw [ho]
    intro H' F2 cls dd ex b q
    refine hg σ H' F2 cls dd ?_ b q
    have e2 := r.er
    exact ⟨fun a f => ex.mono a (.inl (r.ext.mono a f)), fun a f => (ex.new a f).elim (fun z => z.elim (r.ext.new a) fun ⟨i, d, hi, ed, c, es⟩ => by
      obtain ⟨v, ev, _, h2⟩ := r.val i d ed
      obtain ⟨b', o', eb, nf, n0, _, _⟩ := (h2 hi).at_ c
      rw [es] at ev
      cases ev
      cases eb
      exact .inr n0) fun z => .inr (r.ext.there a z), fun a o h n => ex.keep a o (r.ext.keep a o h n) n, fun a h => r.ext.there a (ex.there a h)⟩
theorem gotS_expH {ρ : EX} {f : D → M Fl} {Q : VK} (r : SR fs O F env σ H g) (hg : GotS fs L O' F H Dn (M.bnd (ρ (hide O env)) f g))
    (k : ∀ d g' H' F2 v, SR fs O F2 env σ H' g' → Kp F H H' → (∀ a, F a → F2 a) → R H' F2 fs.fr.β d v → GotS fs L O' F2 H' Dn (f d g') → Q v H') : Got fs.fr F σ H Q (ρ (hide O env) g) := by
  rcases gotS_bnd hg with ⟨d, g', ho, hg⟩ | ⟨c, p, g', ho, hg⟩
  · rw [ho]
    intro v H' F2 ex b q
    obtain ⟨r', kp⟩ := r.backH ex b
    exact k d g' H' F2 v r' kp ex.mono q (gotS_later hg kp ex.mono)
  · rw [ho]
    intro H' F2 cls dd ex b q
    exact hg σ H' F2 cls dd (r.ext.trans ex) b q
/-- what a reading t asks, by the outcome -/
def Red (fr : Fr) (t : TE) (ρ : EX) : Prop := ∀ σ H Q env F g, ER fr F env σ H g → Got fr F σ H Q (ρ env g) → t σ H Q
theorem red_ev {fr : Fr} {ρ : EX} : Red fr (tE fr ρ) ρ := fun σ H Q env F g r hg => ⟨env, F, g, r, hg⟩
theorem red_lc {fr : Fr} {ι : IX} {bd : BX} {τ : TX} {ρ : EX} {vs : List Nat} (hvs : Sub vs bd) : Red fr (tLc (iV fr ι) (gV fr bd) (tT fr τ) (tE fr ρ) vs) (lcE ι bd τ ρ vs) := fun σ H Q env F g r hg => lc_red r hvs hg
def asgF (i : Nat) (ρ : EX) : SX := fun env => M.bnd (ρ env) fun d => if flat d then M.ret (.nx (env.set i (some d))) else M.bad
def asgH (O : List Nat) (i : Nat) (ρ : EX) : SX := fun env => M.bnd (ρ (hide O env)) fun d => M.ret (.nx (env.set i (some d)))
theorem flat_notC {d : D} (h : flat d = true) : isC d = false := by
  cases d <;> first | rfl | (simp [flat] at h)
theorem sv_asgF {i : Nat} {ρ : EX} {te : TE} (h : PS X st (tAsg te (gName i))) (rd : Red fs.fr te ρ) (hO : ∀ j, j ≠ i → (j ∈ O' ↔ j ∈ O)) : SV X fs L O st (asgF i ρ) O' := by
  refine ⟨fun pins s σ H D I ⟨F, env, g, r, hg⟩ => h.run pins s σ H D I (rd σ H _ env _ g r.er (gotS_exp r hg fun d g' H' F2 v r' kp ex b q hq => ?_))⟩
  by_cases hf : flat d = true
  · rw [if_pos hf] at hq
    exact hq _ H' F (r'.set (R.flat_ d v hf q) i hO fun _ => flat_notC hf) (Kp.refl F H') fun _ f => f
  · rw [if_neg hf] at hq
    exact (show False from hq).elim
theorem sv_asgH {i : Nat} {ρ : EX} {te : TE} (h : PS X st (tAsg te (gName i))) (rd : Red fs.fr te ρ) (hO : ∀ j, j ≠ i → (j ∈ O' ↔ j ∈ O)) (hi : i ∉ O') : SV X fs L O st (asgH O i ρ) O' := by
  refine ⟨fun pins s σ H D I ⟨F, env, g, r, hg⟩ => h.run pins s σ H D I (rd σ H _ _ _ g r.erH (gotS_expH r hg fun d g' H' F2 v r' kp hF q hq => ?_))⟩
  exact hq _ H' F2 (r'.set q i hO fun z => absurd z hi) (Kp.refl F2 H') fun _ f => f
/-- return -/
def retS (ρ : EX) : SX := fun env => M.bnd (ρ env) fun d => M.ret (.rt d)
theorem sv_ret {ρ : EX} (h : EV X fs.fr e ρ) : SV X fs L O (.Return (some e) pos) (retS ρ) O' := by
  refine ⟨fun pins s σ H D I ⟨F, env, g, r, hg⟩ => (ps_ret h).run pins s σ H D I ⟨env, _, g, r.er, gotS_exp r hg fun d g' H' F2 v r' kp ex b q hq => ?_⟩⟩
  refine hq v H' F2 ?_ b q (Kp.refl F H')
  exact ⟨fun a f => ex.mono a (.inl (r.ext.mono a f)), fun a f => (ex.new a f).elim (fun z => z.elim (r.ext.new a) fun ⟨i, d, hi, ed, c, es⟩ => by
      obtain ⟨v, ev, _, h2⟩ := r.val i d ed
      obtain ⟨b', o', eb, nf, n0, _, _⟩ := (h2 hi).at_ c
      rw [es] at ev
      cases ev
      cases eb
      exact .inr n0) fun z => .inr (r.ext.there a z), fun a o h n => ex.keep a o (r.ext.keep a o h n) n, fun a h => r.ext.there a (ex.there a h)⟩
def retNS : SX := fun _ => M.ret (.rt .non)
theorem sv_retN : SV X fs L O (.Return none pos) retNS O' := ⟨fun pins s σ H D I ⟨F, env, g, r, hg⟩ => ps_retN.run pins s σ H D I (hg .non H F r.ext r.bag non_r (Kp.refl F H))⟩
/-- an expression, its value dropped -/
def dropS (ρ : EX) : SX := fun env => M.bnd (ρ env) fun _ => M.ret (.nx env)
theorem sv_expr {ρ : EX} (h : EV X fs.fr e ρ) (hs : swapsWith e none pos.line X.env = pure false := by rfl) : SV X fs L O (.Expr e pos) (dropS ρ) O := by
  refine ⟨fun pins s σ H D I ⟨F, env, g, r, hg⟩ => (ps_expr h hs).run pins s σ H D I ⟨env, _, g, r.er, gotS_exp r hg fun d g' H' F2 v r' kp ex b q hq => ?_⟩⟩
  exact hq σ H' F r' (Kp.refl F H') fun _ f => f
/-- if -/
def ifS (τ : TX) (a b : SX) : SX := fun env => M.bnd (τ env) fun c => if c then a env else b env
theorem gotS_test {τ : TX} {f : Bool → M Fl} {Q : Bool → Hp → Prop} (r : SR fs O F env σ H g) (hg : GotS fs L O' F H Dn (M.bnd (τ env) f g))
    (k : ∀ d g' H', SR fs O F env σ H' g' → Kp F H H' → GotS fs L O' F H' Dn (f d g') → Q d H') : GotB fs.fr (fun a => F a ∨ held O env σ a) σ H Q (τ env g) := by
  rcases gotS_bnd hg with ⟨d, g', ho, hg⟩ | ⟨c, p, g', ho, hg⟩
  · rw [ho]
    intro H' F2 ex b
    obtain ⟨r', kp⟩ := r.back ex b
    exact k d g' H' r' kp (gotS_later hg kp fun _ f => f)
  · rw [ho]
    intro H' F2 cls dd ex b q
    refine hg σ H' F2 cls dd ?_ b q
    exact ⟨fun a f => ex.mono a (.inl (r.ext.mono a f)), fun a f => (ex.new a f).elim (fun z => z.elim (r.ext.new a) fun ⟨i, d, hi, ed, c, es⟩ => by
      obtain ⟨v, ev, _, h2⟩ := r.val i d ed
      obtain ⟨b', o', eb, nf, n0, _, _⟩ := (h2 hi).at_ c
      rw [es] at ev
      cases ev
      cases eb
      exact .inr n0) fun z => .inr (r.ext.there a z), fun a o h n => ex.keep a o (r.ext.keep a o h n) n, fun a h => r.ext.there a (ex.there a h)⟩
theorem sv_if {c : Expr} {a b : List Stmt} {τ : TX} {ρa ρb : SX} (hc : TV X fs.fr c τ) (ha : SVs X fs L O a ρa O') (hb : SVs X fs L O b ρb O') : SV X fs L O (.If c a b pos) (ifS τ ρa ρb) O' := by
  refine ⟨fun pins s σ H D I ⟨F, env, g, r, hg⟩ => (ps_if hc ha hb).run pins s σ H D I ⟨env, _, g, r.er, gotS_test r hg fun d g' H' r' kp hq => ?_⟩⟩
  cases d with
  | true => exact iteT ⟨F, env, g', r', hq⟩
  | false => exact iteF ⟨F, env, g', r', hq⟩
end
end VS

/-! VS7: new things, changed things, loops, defs. -/
namespace VS
open PySem PySem.Spec L2 RZ
open PyProof.Rows hiding St

def RedN (fr : Fr) (t : TE) (ρ : EX) : Prop := ∀ σ H Q env F g, ER fr F env σ H g → GotN fr F σ H Q (ρ env g) → t σ H Q
theorem redN_lc {fr : Fr} {ι : IX} {bd : BX} {τ : TX} {ρ : EX} {vs : List Nat} (hvs : Sub vs bd) : RedN fr (tLc (iV fr ι) (gV fr bd) (tT fr τ) (tE fr ρ) vs) (lcE ι bd τ ρ vs) := fun σ H Q env F g r hg => lc_redN r hvs hg
def tEN (fr : Fr) (ρ : EX) : TE := fun σ H Q => ∃ env F g, ER fr F env σ H g ∧ GotN fr F σ H Q (ρ env g)
def EVN (X : Cx) (fr : Fr) (e : Expr) (ρ : EX) : Prop := PE X e (tEN fr ρ)
theorem redN_ev {fr : Fr} {ρ : EX} : RedN fr (tEN fr ρ) ρ := fun σ H Q env F g r hg => ⟨env, F, g, r, hg⟩
def HitN (fr : Fr) (F : Reg) (H : Hp) (g : Bag) (d : D) : VK := fun v H' => ∃ F', Ext fr.β F H F' H' ∧ BagOk fr.β F' H' g ∧ New fr.β H F' H' d v
section
variable {X : Cx} {fr : Fr} {pos : Pos} {e : Expr} {es : List Expr} {ρ : EX} {ρs : AX} {F : Reg} {H : Hp} {g : Bag}
theorem BagOk.neN (b : BagOk fr.β F H g) {p : Addr} (hp : H p = none) : some p ≠ fr.β := fun z => by
  have q := (b.at_ p z.symm).2
  rw [hp] at q
  cases q
theorem hitN_lst (b : BagOk fr.β F H g) {ds : List D} {vs : List V} (h : Rs H F fr.β ds vs) {p : Addr} (hp : H p = none) : HitN fr F H g (.lst ds) (.ref p) (upd H p (.lst vs)) :=
  ⟨F, Ext.put hp, b.put hp, p, vs, rfl, hp, fun f => b.live p f hp, b.neN hp, upd_same, h.ext b (Ext.put hp)⟩
theorem gotN_hit {σ : St} {Q : VK} {d : D} (h : GotN fr F σ H Q (.ok d g)) {v : V} {H' : Hp} (q : HitN fr F H g d v H') : Q v H' :=
  let ⟨F', e, b, r⟩ := q
  h v H' F' e b r
theorem ofO_gotN {o : Option D} {σ : St} {Q : VK} (h : GotN fr F σ H Q (M.ofO o g)) : ∃ a, o = some a ∧ GotN fr F σ H Q (.ok a g) := by
  cases o with
  | none => exact (show False from h).elim
  | some a => exact ⟨a, rfl, h⟩
theorem EV.goMN (h : EV X fr e ρ) {pins : List (Addr × Obj)} {s : Shared} {σ : St} {env : Slots} {P : Value → Shared → Prop} {f : D → M D} {Q : VK} (I : Inv X pins σ H s) (r : ER fr F env σ H g)
    (hg : GotN fr F σ H Q (M.bnd (ρ env) f g))
    (hk : ∀ d g' u s' v H' F', Inv X pins σ H' s' → RelV v u → Ext fr.β F H F' H' → ER fr F' env σ H' g' → R H' F' fr.β d v → GotN fr F' σ H' Q (f d g') → P u s') :
    wpAny (model X.prog X.w) X.A (eval e X.env) P X.xe s := by
  rcases gotN_bnd hg with ⟨d, g', ho, hg⟩ | ⟨c, p, g', ho, hg⟩
  · exact h.go I r (fun z => by rw [ho] at z; cases z) (fun c p g2 z => by rw [ho] at z; cases z) fun d2 g2 z u s' v H' F' I' rv ex er q => by
      rw [ho] at z
      cases z
      exact hk d g' u s' v H' F' I' rv ex er q (hg.later ex)
  · exact h.go I r (fun z => by rw [ho] at z; cases z) (fun c2 p2 g2 z => by rw [ho] at z; cases z; exact hg) fun d2 g2 z => by
      rw [ho] at z
      cases z
theorem AV.goMN {cpos : Pos} (h : AV X fr es ρs) {pins : List (Addr × Obj)} {s : Shared} {σ : St} {env : Slots} {P : List Value → Shared → Prop} {f : List D → M D} {Q : VK} (I : Inv X pins σ H s) (r : ER fr F env σ H g)
    (hg : GotN fr F σ H Q (M.bnd (ρs env) f g))
    (hk : ∀ d g' us s' vs H' F', Inv X pins σ H' s' → Vals vs us → Ext fr.β F H F' H' → ER fr F' env σ H' g' → Rs H' F' fr.β d vs → GotN fr F' σ H' Q (f d g') → P us s') :
    wpAny (model X.prog X.w) X.A (spliced (backTo cpos (starEach es X.env))) P X.xe s := by
  have key : tA fr ρs σ H (fun vs H' => ∃ d g' F', Ext fr.β F H F' H' ∧ ER fr F' env σ H' g' ∧ Rs H' F' fr.β d vs ∧ GotN fr F' σ H' Q (f d g')) := by
    refine ⟨env, F, g, r, ?_⟩
    rcases gotN_bnd hg with ⟨d, g', ho, hg⟩ | ⟨c, p, g', ho, hg⟩
    · rw [ho]
      exact fun v H' F' ex b q => ⟨d, g', F', ex, r.ext ex b, q, hg.later ex⟩
    · rw [ho]; exact hg
  exact thn (PA.run h cpos pins s σ H _ I key) fun us s' ⟨vs, H', I', rv, d, g', F', ex, er, q, hq⟩ => hk d g' us s' vs H' F' I' rv ex er q hq
structure Op2N (X : Cx) (fr : Fr) (f : Value → Value → Sem Value) (q : D → D → Option D) : Prop where
  at_ : ∀ H F g x y d1 d2 d, BagOk fr.β F H g → R H F fr.β d1 x → R H F fr.β d2 y → q d1 d2 = some d → ∃ r, OpR X f r ∧ r x y H (HitN fr F H g d)
structure OpLN (X : Cx) (fr : Fr) (f : Value) (q : List D → Option D) : Prop where
  at_ : ∀ H F g xs ds d, BagOk fr.β F H g → Rs H F fr.β ds xs → q ds = some d → ∃ r, CallR X f r ∧ r xs H (HitN fr F H g d)
theorem OpLN.ol {f : Value} {q : List D → Option D} (h : OpLN X fr f q) : OpL X fr f q := ⟨fun H F g xs ds d b rs e => by
  obtain ⟨r, h1, h2⟩ := h.at_ H F g xs ds d b rs e
  refine ⟨fun vs H2 Q2 => r vs H2 (HitN fr F H g d) ∧ ∀ v H', HitN fr F H g d v H' → Q2 v H', fun pins s σ H2 xs2 us Q2 I rv ⟨w1, w2⟩ => thn (h1 pins s σ H2 xs2 us _ I rv w1) fun u s' z => ep_imp z w2, h2, fun v H' ⟨F', e1, b1, n⟩ => n.r e1 b1⟩⟩
variable {a b : Expr} {ρa ρb : EX}
theorem evn_bin {op : Operator} {q : D → D → Option D} (ho : Op2N X fr (binaryOp op) q) (ha : EV X fr a ρa) (hb : EV X fr b ρb) : EVN X fr (.BinOp a op b pos) (bin2 q ρa ρb) := by
  refine ⟨fun pins s σ H Q I ⟨env, F, g, r, hg⟩ => wpAny_BinOp ?_⟩
  refine ha.goMN I r hg fun d1 g1 u1 s1 v1 H1 F1 I1 rv1 ex1 er1 q1 hg1 => hb.goMN I1 er1 hg1 fun d2 g2 u2 s2 v2 H2 F2 I2 rv2 ex2 er2 q2 hg2 => ?_
  obtain ⟨d, ed, hg3⟩ := ofO_gotN hg2
  obtain ⟨r', hr, hq⟩ := ho.at_ H2 F2 g2 v1 v2 d1 d2 d er2.bag (q1.ext er1.bag ex2) q2 ed
  exact thn (hr pins s2 σ H2 v1 v2 u1 u2 _ I2 rv1 rv2 hq) fun u s' e => ep_imp e fun v H' z => gotN_hit hg3 z
def addL : D → D → Option D
  | .lst xs, .lst ys => if xs.length + ys.length ≤ line then some (.lst (xs ++ ys)) else none
  | _, _ => none
def mulL : D → D → Option D
  | .lst xs, .int k => if -(2 ^ 63) ≤ k ∧ k < 2 ^ 63 ∧ xs.length * k.toNat ≤ line then some (.lst (List.replicate k.toNat xs).flatten) else none
  | _, _ => none
theorem o_addN : Op2N X fr (binaryOp .Add) addL := ⟨fun H F g x y d1 d2 d b r1 r2 e => by
  unfold addL at e
  split at e
  · split at e
    · rename_i xs ys hl
      cases e
      obtain ⟨a, vs, rfl, f1, h1, q1⟩ := r_lst r1
      obtain ⟨a2, vs2, rfl, f2, h2, q2⟩ := r_lst r2
      exact ⟨_, op_cat, a, a2, vs, vs2, rfl, rfl, h1, h2, by rw [← q1.length, ← q2.length, line_eq]; exact hl, fun p hp => hitN_lst b (q1.append q2) hp⟩
    · cases e
  · cases e⟩
theorem o_mulN : Op2N X fr (binaryOp .Mult) mulL := ⟨fun H F g x y d1 d2 d b r1 r2 e => by
  unfold mulL at e
  split at e
  · split at e
    · rename_i xs k hl
      cases e
      obtain ⟨a, vs, rfl, f1, h1, q1⟩ := r_lst r1
      exact ⟨_, op_rep, a, k, vs, rfl, r_int r2, h1, hl.1, hl.2.1, by rw [← q1.length, line_eq]; exact hl.2.2, fun p hp => hitN_lst b (q1.rep _) hp⟩
    · cases e
  · cases e⟩
theorem evn_lst (h : AV X fr es ρs) : EVN X fr (.List es pos) (lstE ρs) := by
  refine ⟨fun pins s σ H Q I ⟨env, F, g, r, hg⟩ => (pe_lst h).run pins s σ H Q I ?_⟩
  refine ⟨env, F, g, r, ?_⟩
  rcases gotN_bnd hg with ⟨ds, g', ho, hg⟩ | ⟨c, p, g', ho, hg⟩
  · rw [ho]
    intro vs H' F' ex b q
    obtain ⟨d, ed, hg⟩ := ofO_gotN hg
    split at ed
    · rename_i hl
      cases ed
      exact ⟨le_line (by rw [← q.length]; exact hl), fun p hp => gotN_hit (hg.later ex) (hitN_lst b q hp)⟩
    · cases ed
  · rw [ho]; exact hg
theorem evn_callTy {x : Str} {T : String} {p : Pos} {q : List D → Option D} (ho : OpLN X fr (.type T) q) (hg : Gl X x) (hm : X.mg x = none) (hv : bootBuiltins x = some (.type T)) (ha : AV X fr (e :: es) ρs) (hn : x ≠ "__name__" := by decide) (hdb : (x == ("__debug__" : Str)) = false := by decide)
    (he : starEach (e :: es) X.env = (false, eval e X.env) :: starEach es X.env := by rfl) (hpl : (backTo pos (starEach es X.env)).any (·.1) = false := by rfl) : EVN X fr (.Call (.Name x p) (e :: es) [] pos) (callE q ρs) := by
  refine ⟨fun pins s σ H Q I ⟨env, F, g, r, hgt⟩ => ?_⟩
  refine wpAny_Call_Name_kw (ld_blt I hg hm hv ?_ hn hdb)
  refine PyProof.Rows.callWith_type1 (ha.goMN I r hgt fun ds g1 us s1 vs H1 F1 I1 rv ex er qs hq => ?_) he hpl
  obtain ⟨d, ed, hq⟩ := ofO_gotN hq
  obtain ⟨r', hr, hh⟩ := ho.at_ H1 F1 g1 vs ds d er.bag qs ed
  exact thn (hr pins s1 σ H1 vs us _ I1 rv hh) fun u s' e => ep_imp e fun v H' z => gotN_hit hq z
theorem evn_callB {x : Str} {id : String} {p : Pos} {q : List D → Option D} (ho : OpLN X fr (.builtin id) q) (hg : Gl X x) (hm : X.mg x = none) (hv : bootBuiltins x = some (.builtin id)) (ha : AV X fr (e :: es) ρs) (hn : x ≠ "__name__" := by decide) (hdb : (x == ("__debug__" : Str)) = false := by decide)
    (he : starEach (e :: es) X.env = (false, eval e X.env) :: starEach es X.env := by rfl) (hpl : (backTo pos (starEach es X.env)).any (·.1) = false := by rfl) : EVN X fr (.Call (.Name x p) (e :: es) [] pos) (callE q ρs) := by
  refine ⟨fun pins s σ H Q I ⟨env, F, g, r, hgt⟩ => ?_⟩
  refine wpAny_Call_Name_kw (ld_blt I hg hm hv ?_ hn hdb)
  refine PyProof.Rows.callWith_builtin1 (ha.goMN I r hgt fun ds g1 us s1 vs H1 F1 I1 rv ex er qs hq => ?_) he hpl
  obtain ⟨d, ed, hq⟩ := ofO_gotN hq
  obtain ⟨r', hr, hh⟩ := ho.at_ H1 F1 g1 vs ds d er.bag qs ed
  exact thn (hr pins s1 σ H1 vs us _ I1 rv hh) fun u s' e => ep_imp e fun v H' z => gotN_hit hq z
/-- a slice of a list -/
def slL : D → Option Int → Option Int → Option D
  | .lst xs, lo, hi => some (.lst (cutD xs lo hi))
  | _, _, _ => none
def slNE (ρ : EX) (l h : PX) : EX := fun env => M.bnd (ρ env) fun d => M.bnd (l env) fun i => M.bnd (h env) fun j => M.ofO (slL d i j)
end
end VS

/-! VS8: stores, loops, defs. -/
namespace VS
open PySem PySem.Spec L2 RZ
open PyProof.Rows hiding St

section
variable {X : Cx} {fr : Fr} {pos : Pos} {e : Expr} {ρ : EX} {F : Reg} {H : Hp} {g : Bag}
theorem PV.goMN {lo : Option Expr} {π : PX} (h : PV X fr lo π) {pins : List (Addr × Obj)} {s : Shared} {σ : St} {env : Slots} {P : Value → Shared → Prop} {f : Option Int → M D} {Q : VK} (I : Inv X pins σ H s) (r : ER fr F env σ H g)
    (hg : GotN fr F σ H Q (M.bnd (π env) f g))
    (hk : ∀ i g' u s' H' F', Inv X pins σ H' s' → IsPart u i → Ext fr.β F H F' H' → ER fr F' env σ H' g' → GotN fr F' σ H' Q (f i g') → P u s') : wpAny (model X.prog X.w) X.A (evalPart lo X.env) P X.xe s := by
  rcases gotN_bnd hg with ⟨i, g', ho, hg2⟩ | ⟨c, p, g', ho, hg2⟩
  · refine h pins s σ H F env g P I r (fun z => by rw [ho] at z; cases z) (fun c p g2 z => by rw [ho] at z; cases z) fun i2 g2 z u s' H' F' I' pu ex er => ?_
    rw [ho] at z
    cases z
    exact hk i g' u s' H' F' I' pu ex er (hg2.later ex)
  · exact h pins s σ H F env g P I r (fun z => by rw [ho] at z; cases z) (fun c2 p2 g2 z => by rw [ho] at z; cases z; exact hg2) fun i2 g2 z => by
      rw [ho] at z
      cases z
theorem evn_slice {lo hi : Option Expr} {l h : PX} {p2 : Pos} (he : EV X fr e ρ) (hl : PV X fr lo l) (hu : PV X fr hi h) : EVN X fr (.Subscript e (.Slice lo hi none p2) pos) (slNE ρ l h) := by
  refine ⟨fun pins s σ H Q I ⟨env, F, g, r, hg⟩ => ?_⟩
  refine Subscript_ (he.goMN I r hg fun d g1 u s1 v H1 F1 I1 rv ex1 er1 q hg1 => ?_)
  refine wpAny_Slice (hl.goMN I1 er1 hg1 fun i g2 vl s2 H2 F2 I2 pl ex2 er2 hg2 => hu.goMN I2 er2 hg2 fun j g3 vu s3 H3 F3 I3 pu ex3 er3 hg3 => ?_)
  rw [evalPart_none]
  refine wpAny_pure ?_
  obtain ⟨d2, ed, hg4⟩ := ofO_gotN hg3
  cases d with
  | lst xs =>
    cases ed
    obtain ⟨a, vs, rfl, f1, h1, rs⟩ := r_lst ((q.ext er1.bag ex2).ext er2.bag ex3)
    have I4 : Inv X pins σ H3 { s3 with heap := s3.heap.push { cls := .type "slice", data := .fields #[vl, vu, .none] } } := I3.kept (t' := s3.toks) fun b ob q => Heap.get?_push_of_some _ q
    obtain ⟨T, id, hT, ht, hgi⟩ := sl_list pins { s3 with heap := s3.heap.push { cls := .type "slice", data := .fields #[vl, vu, .none] } } σ H3 _ u vl vu i j s3.heap.objs.size _ I4 rv (Heap.IsSliceOf.new ..) pl pu ⟨a, vs, rfl, SqL.of h1, fun p hp => hitN_lst er3.bag rs.cut hp⟩
    show wpAny (model X.prog X.w) X.A (subscriptTail e (.Slice lo hi none p2) u (.ref s3.heap.objs.size)) (EP X pins σ Q) X.xe { s3 with heap := s3.heap.push { cls := .type "slice", data := .fields #[vl, vu, .none] } }
    exact thn (tail_any (ops := [.ref s3.heap.objs.size, u]) ht hT hgi (by with_unfolding_all rfl)) fun u s' e => ep_imp e fun v H' z => gotN_hit hg4 z
  | _ => cases ed
/-- new dicts -/
def newK : EX := fun _ => M.ret (.dK [] [])
def newT : EX := fun _ => M.ret (.dT [] [])
theorem evn_newK : EVN X fr (.Dict [] [] pos) newK := ⟨fun pins s σ H Q I ⟨env, F, g, r, hg⟩ => pe_dnewK.run pins s σ H Q I fun p hp =>
  hg (.ref p) _ F (Ext.put hp) (r.bag.put hp) ⟨p, [], rfl, hp, fun f => r.bag.live p f hp, r.bag.neN hp, upd_same, rfl, .nil⟩⟩
theorem evn_newT : EVN X fr (.Dict [] [] pos) newT := ⟨fun pins s σ H Q I ⟨env, F, g, r, hg⟩ => pe_dnewT.run pins s σ H Q I fun p hp =>
  hg (.ref p) _ F (Ext.put hp) (r.bag.put hp) ⟨p, [], rfl, hp, fun f => r.bag.live p f hp, r.bag.neN hp, upd_same, rfl, .nil⟩⟩
end

/-! ### a slot gets a new thing -/
def flatIn : D → Bool
  | .lst xs => flats xs
  | .dK _ xs => flats xs
  | .dT _ xs => flats xs
  | _ => false
section
variable {X : Cx} {fs : Fs} {L O O1 O2 O' : List Nat} {st : Stmt} {rest : List Stmt} {pos : Pos} {e : Expr} {σ : St} {H : Hp} {F : Reg} {env : Slots} {g : Bag} {Dn : Ends}
theorem New.own {H' : Hp} {F' : Reg} {d : D} {v : V} (n : New fs.fr.β H F' H' d v) (hf : flatIn d = true) (hF : ∀ a, F a → F' a) (h0 : ∀ a, H a = none → fs.H0 a = none) : ∃ a, v = .ref a ∧ H a = none ∧ Own fs H' F d (.ref a) := by
  cases d with
  | lst xs =>
    obtain ⟨a, vs, rfl, n, f, nb, h, r⟩ := n
    exact ⟨a, rfl, n, a, vs, rfl, fun z => f (hF a z), h0 a n, h, Rs.flat_ xs vs hf r⟩
  | dK ks xs =>
    obtain ⟨a, kv, rfl, n, f, nb, h, ek, r⟩ := n
    exact ⟨a, rfl, n, a, kv, rfl, fun z => f (hF a z), h0 a n, h, ek, Rs.flat_ xs _ hf r⟩
  | dT ks xs =>
    obtain ⟨a, kv, rfl, n, f, nb, h, ek, r⟩ := n
    exact ⟨a, rfl, n, a, kv, rfl, fun z => f (hF a z), h0 a n, h, ek, Rs.flat_ xs _ hf r⟩
  | _ => exact n.elim
theorem New.ownH {H' : Hp} {F' : Reg} {d : D} {v : V} (n : New fs.fr.β H F' H' d v) (h0 : ∀ a, H a = none → fs.H0 a = none) : ∃ a, v = .ref a ∧ H a = none ∧ Own fs H' F' d (.ref a) := by
  cases d with
  | lst xs =>
    obtain ⟨a, vs, rfl, n, f, nb, h, r⟩ := n
    exact ⟨a, rfl, n, a, vs, rfl, f, h0 a n, h, r⟩
  | dK ks xs =>
    obtain ⟨a, kv, rfl, n, f, nb, h, ek, r⟩ := n
    exact ⟨a, rfl, n, a, kv, rfl, f, h0 a n, h, ek, r⟩
  | dT ks xs =>
    obtain ⟨a, kv, rfl, n, f, nb, h, ek, r⟩ := n
    exact ⟨a, rfl, n, a, kv, rfl, f, h0 a n, h, ek, r⟩
  | _ => exact n.elim
/-- an owned slot's thing stands in the heap -/
theorem SR.there (r : SR fs O F env σ H g) {j : Nat} {e : D} {a : Addr} (hj : j ∈ O) (he : env[j]? = some (some e)) (c : isC e = true) (es : σ[j]? = some (some (.ref a))) : H a ≠ none := by
  obtain ⟨v, ev, _, h2⟩ := r.val j e he
  obtain ⟨b, o, eb, _, _, hb, _⟩ := (h2 hj).at_ c
  rw [es] at ev
  cases ev
  cases eb
  rw [hb]
  exact fun z => nomatch z
theorem gotS_expN {ρ : EX} {f : D → M Fl} {Q : VK} (r : SR fs O F env σ H g) (hg : GotS fs L O' F H Dn (M.bnd (ρ env) f g))
    (k : ∀ d g' H' F2 v, SR fs O F env σ H' g' → Kp F H H' → Ext fs.fr.β (fun a => F a ∨ held O env σ a) H F2 H' → BagOk fs.fr.β F2 H' g' → New fs.fr.β H F2 H' d v → GotS fs L O' F H' Dn (f d g') → Q v H') : GotN fs.fr (fun a => F a ∨ held O env σ a) σ H Q (ρ env g) := by
  rcases gotS_bnd hg with ⟨d, g', ho, hg⟩ | ⟨c, p, g', ho, hg⟩
  · rw [ho]
    intro v H' F2 ex b q
    obtain ⟨r', kp⟩ := r.back ex b
    exact k d g' H' F2 v r' kp ex b q (gotS_later hg kp fun _ f => f)
  · have q := gotS_exp (Q := Q) (ρ := fun _ _ => .exn c p g') (f := fun _ => M.bad) r (env := env) hg fun d g2 H' F2 v _ _ _ _ _ z => z.elim
    rw [ho]
    exact q
theorem gotS_expNH {ρ : EX} {f : D → M Fl} {Q : VK} (r : SR fs O F env σ H g) (hg : GotS fs L O' F H Dn (M.bnd (ρ (hide O env)) f g))
    (k : ∀ d g' H' F2 v, SR fs O F2 env σ H' g' → Kp F H H' → (∀ a, F a → F2 a) → New fs.fr.β H F2 H' d v → GotS fs L O' F2 H' Dn (f d g') → Q v H') : GotN fs.fr F σ H Q (ρ (hide O env) g) := by
  rcases gotS_bnd hg with ⟨d, g', ho, hg⟩ | ⟨c, p, g', ho, hg⟩
  · rw [ho]
    intro v H' F2 ex b q
    obtain ⟨r', kp⟩ := r.backH ex b
    exact k d g' H' F2 v r' kp ex.mono q (gotS_later hg kp ex.mono)
  · rw [ho]
    intro H' F2 cls dd ex b q
    exact hg σ H' F2 cls dd (r.ext.trans ex) b q
def asgN (i : Nat) (ρ : EX) : SX := fun env => M.bnd (ρ env) fun d => if flatIn d then M.ret (.nx (env.set i (some d))) else M.bad
theorem sv_asgN {i : Nat} {ρ : EX} {te : TE} (h : PS X st (tAsg te (gName i))) (rd : RedN fs.fr te ρ) (hO : ∀ j, j ≠ i → (j ∈ O' ↔ j ∈ O)) (hi : i ∈ O') : SV X fs L O st (asgN i ρ) O' := by
  refine ⟨fun pins s σ H D I ⟨F, env, g, r, hg⟩ => h.run pins s σ H D I (rd σ H _ env _ g r.er (gotS_expN r hg fun d g' H' F2 v r' kp ex b q hq => ?_))⟩
  by_cases hf : flatIn d = true
  · rw [if_pos hf] at hq
    obtain ⟨a, rfl, n, own⟩ := q.own (F := F) hf (fun x f => ex.mono x (.inl f)) r.ext.there
    exact hq _ H' F (r'.setN own i hO hi fun j e hj hne he c es => r.there hj he c es n) (Kp.refl F H') fun _ f => f
  · rw [if_neg hf] at hq
    exact (show False from hq).elim
def asgNH (O : List Nat) (i : Nat) (ρ : EX) : SX := fun env => M.bnd (ρ (hide O env)) fun d => M.ret (.nx (env.set i (some d)))
theorem sv_asgNH {i : Nat} {ρ : EX} {te : TE} (h : PS X st (tAsg te (gName i))) (rd : RedN fs.fr te ρ) (hO : ∀ j, j ≠ i → (j ∈ O' ↔ j ∈ O)) (hi : i ∈ O') : SV X fs L O st (asgNH O i ρ) O' := by
  refine ⟨fun pins s σ H D I ⟨F, env, g, r, hg⟩ => h.run pins s σ H D I (rd σ H _ _ _ g r.erH (gotS_expNH r hg fun d g' H' F2 v r' kp hF q hq => ?_))⟩
  obtain ⟨a, rfl, n, own⟩ := q.ownH r.ext.there
  exact hq _ H' F2 (r'.setN own i hO hi fun j e hj hne he c es => r.there hj he c es n) (Kp.refl F2 H') fun _ f => f

/-! ### an owned thing is changed -/
/-- the heap at an owned slot's thing is written -/
theorem SR.write (r : SR fs O F env σ H g) {i : Nat} {d d' : D} {a : Addr} {o : HO} (hi : i ∈ O) (he : env[i]? = some (some d)) (c : isC d = true) (c' : isC d' = true) (es : σ[i]? = some (some (.ref a))) (hnt : ∀ xs, o ≠ .tup xs)
    (own : Own fs (upd H a o) F d' (.ref a)) : SR fs O F (env.set i (some d')) σ (upd H a o) g ∧ Kp F H (upd H a o) := by
  obtain ⟨v, ev, _, h2⟩ := r.val i d he
  obtain ⟨b, ob, eb, nf, n0, hb, nt⟩ := (h2 hi).at_ c
  rw [es] at ev
  cases ev
  cases eb
  have nb : some a ≠ fs.fr.β := r.neB n0
  have kp : Kp F H (upd H a o) := ⟨fun x xs h => by rw [upd_ne (fun z => by rw [z, hb] at h; exact nt xs (Option.some.inj h))]; exact h, fun x u f h => by rw [upd_ne (fun z => nf (by rw [← z]; exact f))]; exact h⟩
  have hl : i < env.length := (List.getElem?_eq_some_iff.mp he).1
  refine ⟨⟨by simpa using r.len, fun j e h => ?_, fun j k e e' x hj hk ne h h' ce ce' ej ek => ?_, ⟨fun x f z => ?_, fun x q => ⟨(r.bag.at_ x q).1, by rw [upd_ne (fun z => nb (by rw [← z]; exact q.symm))]; exact (r.bag.at_ x q).2⟩⟩, ⟨r.ext.mono, r.ext.new, fun x u h n => ?_, fun x h => ?_⟩, r.nb⟩, kp⟩
  · by_cases hj : j = i
    · subst hj
      rw [List.getElem?_set_self hl] at h
      cases h
      exact ⟨_, es, fun hm => absurd hi hm, fun _ => own⟩
    · rw [List.getElem?_set_ne (Ne.symm hj)] at h
      obtain ⟨u, e2, q1, q2⟩ := r.val j e h
      refine ⟨u, e2, fun hm => (q1 hm).kp kp fun _ f => f, fun hm => (q2 hm).kp kp (fun _ f => f) fun x ox ex cx hx => ?_⟩
      obtain ⟨b', o', eb', nf', _, _, _⟩ := (q2 hm).at_ cx
      rw [ex] at eb'
      cases eb'
      refine ⟨?_, nf'⟩
      rw [upd_ne (fun z => r.sep j i e d a hm hi hj h he cx c (by rw [e2, ex, z]) es)]
      exact hx
  · have cc : ∀ {j : Nat} {e : D}, (env.set i (some d'))[j]? = some (some e) → isC e = true → ∃ e2, env[j]? = some (some e2) ∧ isC e2 = true := fun {j e} h ce => by
      by_cases hj : j = i
      · subst hj; exact ⟨d, he, c⟩
      · rw [List.getElem?_set_ne (Ne.symm hj)] at h; exact ⟨e, h, ce⟩
    obtain ⟨e1, h1, c1⟩ := cc h ce
    obtain ⟨e2, h2', c2⟩ := cc h' ce'
    exact r.sep j k e1 e2 x hj hk ne h1 h2' c1 c2 ej ek
  · rw [upd_ne (fun z => nf (by rw [← z]; exact f))] at z
    exact r.bag.live x f z
  · rw [upd_ne (fun z => by rw [z, n0] at h; cases h)]
    exact r.ext.keep x u h n
  · by_cases z : x = a
    · rw [z]; exact n0
    · rw [upd_ne z] at h; exact r.ext.there x h
end
end VS

/-! VS9: append, stores, the bag's stores. -/
namespace VS
open PySem PySem.Spec L2 RZ
open PyProof.Rows hiding St

def lstAt (env : Slots) (i : Nat) : Option (List D) := match env[i]? with
  | some (some (.lst xs)) => some xs
  | _ => none
theorem lstAt_some {env : Slots} {i : Nat} {xs : List D} (h : lstAt env i = some xs) : env[i]? = some (some (.lst xs)) := by
  unfold lstAt at h
  split at h
  · rename_i ys e
    cases h
    exact e
  · cases h
section
variable {X : Cx} {fs : Fs} {L O O1 O2 O' : List Nat} {st : Stmt} {rest : List Stmt} {pos : Pos} {e : Expr} {σ : St} {H : Hp} {F : Reg} {env : Slots} {g : Bag} {Dn : Ends} {te tk : TE} {ρ κ : EX}
theorem gotS_ofO {α : Type} {o : Option α} {f : α → M Fl} (h : GotS fs L O' F H Dn (M.bnd (M.ofO o) f g)) : ∃ a, o = some a ∧ GotS fs L O' F H Dn (f a g) := by
  cases o with
  | none => exact (show False from h).elim
  | some a => exact ⟨a, rfl, h⟩
theorem gotS_chk {p : Prop} [Decidable p] {m : M Fl} (h : GotS fs L O' F H Dn ((if p then m else M.bad) g)) : p ∧ GotS fs L O' F H Dn (m g) := by
  by_cases q : p
  · rw [if_pos q] at h; exact ⟨q, h⟩
  · rw [if_neg q] at h; exact (show False from h).elim
theorem Kp.upd {a : Addr} {o ob : HO} (nf : ¬ F a) (hb : H a = some ob) (nt : ∀ xs, ob ≠ .tup xs) : Kp F H (upd H a o) :=
  ⟨fun x xs h => by rw [upd_ne (fun z => by rw [z, hb] at h; exact nt xs (Option.some.inj h))]; exact h, fun x u f h => by rw [upd_ne (fun z => nf (by rw [← z]; exact f))]; exact h⟩
/-- the list of an owned slot -/
theorem SR.lst (r : SR fs O F env σ H g) {i : Nat} {xs : List D} (hi : i ∈ O) (he : env[i]? = some (some (.lst xs))) : ∃ a vs, σ[i]? = some (some (.ref a)) ∧ ¬ F a ∧ fs.H0 a = none ∧ H a = some (.lst vs) ∧ Rs H F fs.fr.β xs vs := by
  obtain ⟨v, ev, _, h2⟩ := r.val i _ he
  obtain ⟨a, vs, rfl, nf, n0, ha, q⟩ := h2 hi
  exact ⟨a, vs, ev, nf, n0, ha, q⟩
/-- the list is written -/
theorem SR.putL (r : SR fs O F env σ H g) {i : Nat} {xs ys : List D} {a : Addr} {vs us : List V} (hi : i ∈ O) (he : env[i]? = some (some (.lst xs))) (es : σ[i]? = some (some (.ref a))) (nf : ¬ F a) (n0 : fs.H0 a = none) (ha : H a = some (.lst vs)) (q : Rs H F fs.fr.β ys us) :
    SR fs O F (env.set i (some (.lst ys))) σ (upd H a (.lst us)) g ∧ Kp F H (upd H a (.lst us)) :=
  r.write hi he rfl rfl es (fun _ z => nomatch z) ⟨a, us, rfl, nf, n0, upd_same, q.kp (Kp.upd nf ha fun _ z => nomatch z) fun _ f => f⟩
def appF (i : Nat) (ρ : EX) : SX := fun env => M.bnd (M.ofO (lstAt env i)) fun xs => M.bnd (ρ env) fun d => if flat d = true ∧ xs.length < line then M.ret (.nx (env.set i (some (.lst (xs ++ [d]))))) else M.bad
def appH (O : List Nat) (i : Nat) (ρ : EX) : SX := fun env => M.bnd (M.ofO (lstAt env i)) fun xs => M.bnd (ρ (hide O env)) fun d => if xs.length < line then M.ret (.nx (env.set i (some (.lst (xs ++ [d]))))) else M.bad
theorem sv_appF {i : Nat} (h : PS X st (tDrop (tBM X.K "list" rAppend (tVar i) (tCons te tNil)))) (rd : Red fs.fr te ρ) (hi : i ∈ O) : SV X fs L O st (appF i ρ) O := by
  refine ⟨fun pins s σ H D I ⟨F, env, g, r, hg⟩ => h.run pins s σ H D I ?_⟩
  obtain ⟨xs, he, hg⟩ := gotS_ofO hg
  have he := lstAt_some he
  obtain ⟨a, vs, ev, nf, n0, ha, q⟩ := r.lst hi he
  refine ⟨.ref a, ev, .inl ⟨rfl, vs, SqL.of ha⟩, rd σ H _ env _ g r.er (gotS_exp r hg fun d g' H' F2 v r' kp ex b qd hq => ?_)⟩
  obtain ⟨hf, hq⟩ := gotS_chk hq
  obtain ⟨a', vs', ev', nf', n0', ha', q'⟩ := r'.lst hi he
  rw [ev] at ev'
  cases ev'
  obtain ⟨r2, kp2⟩ := r'.putL (ys := xs ++ [d]) (us := vs' ++ [v]) hi he ev nf' n0' ha' (q'.append (.one (R.flat_ d v hf.1 qd)))
  exact ⟨a, vs', v, rfl, rfl, ha', by rw [← q'.length, line_eq]; exact hf.2, hq σ _ F r2 kp2 fun _ f => f⟩
theorem sv_appH {i : Nat} (h : PS X st (tDrop (tBM X.K "list" rAppend (tVar i) (tCons te tNil)))) (rd : Red fs.fr te ρ) (hi : i ∈ O) : SV X fs L O st (appH O i ρ) O := by
  refine ⟨fun pins s σ H D I ⟨F, env, g, r, hg⟩ => h.run pins s σ H D I ?_⟩
  obtain ⟨xs, he, hg⟩ := gotS_ofO hg
  have he := lstAt_some he
  obtain ⟨a, vs, ev, nf, n0, ha, q⟩ := r.lst hi he
  refine ⟨.ref a, ev, .inl ⟨rfl, vs, SqL.of ha⟩, rd σ H _ _ _ g r.erH (gotS_expH r hg fun d g' H' F2 v r' kp hF qd hq => ?_)⟩
  obtain ⟨hf, hq⟩ := gotS_chk hq
  obtain ⟨a', vs', ev', nf', n0', ha', q'⟩ := r'.lst hi he
  rw [ev] at ev'
  cases ev'
  obtain ⟨r2, kp2⟩ := r'.putL (ys := xs ++ [d]) (us := vs' ++ [v]) hi he ev nf' n0' ha' (q'.append (.one qd))
  exact ⟨a, vs', v, rfl, rfl, ha', by rw [← q'.length, line_eq]; exact hf, hq σ _ F2 r2 kp2 fun _ f => f⟩

/-! ### x[k] = e -/
def ixO (n : Nat) (k : D) : Option Nat := match k with
  | .int k => ixN n k
  | _ => none
theorem ixO_some {n : Nat} {k : D} {j : Nat} (h : ixO n k = some j) : ∃ i, k = .int i ∧ ixN n i = some j := by
  cases k with
  | int i => exact ⟨i, rfl, h⟩
  | _ => cases h
def stoF (i : Nat) (κ ρ : EX) : SX := fun env => M.bnd (ρ env) fun d => M.bnd (M.ofO (lstAt env i)) fun xs => M.bnd (κ env) fun k => M.bnd (M.ofO (ixO xs.length k)) fun j =>
  if flat d = true then M.ret (.nx (env.set i (some (.lst (xs.set j d))))) else M.bad
def stoH (O : List Nat) (i : Nat) (κ ρ : EX) : SX := fun env => M.bnd (ρ (hide O env)) fun d => M.bnd (M.ofO (lstAt env i)) fun xs => M.bnd (κ (hide O env)) fun k => M.bnd (M.ofO (ixO xs.length k)) fun j =>
  M.ret (.nx (env.set i (some (.lst (xs.set j d)))))
theorem sv_stoF {i : Nat} (h : PS X st (tAsg te (gSub (tVar i) tk rSetL))) (rd : Red fs.fr te ρ) (rk : Red fs.fr tk κ) (hi : i ∈ O) : SV X fs L O st (stoF i κ ρ) O := by
  refine ⟨fun pins s σ H D I ⟨F, env, g, r, hg⟩ => h.run pins s σ H D I ?_⟩
  refine rd σ H _ env _ g r.er (gotS_exp r hg fun d g1 H1 F2 v r1 kp ex b qd hq => ?_)
  obtain ⟨xs, he, hq⟩ := gotS_ofO hq
  have he := lstAt_some he
  obtain ⟨a, vs, ev, nf, n0, ha, q⟩ := r1.lst hi he
  refine ⟨.ref a, ev, rk σ H1 _ env _ g1 r1.er (gotS_exp r1 hq fun k g2 H2 F3 w r2 kp2 ex2 b2 qk hq => ?_)⟩
  obtain ⟨j, hj, hq2⟩ := gotS_ofO hq
  obtain ⟨hf, hq3⟩ := gotS_chk hq2
  obtain ⟨z, rfl, hj⟩ := ixO_some hj
  obtain ⟨a', vs', ev', nf', n0', ha', q'⟩ := r2.lst hi he
  rw [ev] at ev'
  cases ev'
  have qd' : R H2 F fs.fr.β d v := (R.flat_ d v hf qd (F' := F)).kp kp2 fun _ f => f
  obtain ⟨r3, kp3⟩ := r2.putL (ys := xs.set j d) (us := vs'.set j v) hi he ev nf' n0' ha' (q'.set j qd')
  exact ⟨a, vs', z, j, rfl, r_int qk, ha', by rw [← q'.length]; exact hj, hq3 σ _ F r3 kp3 fun _ f => f⟩
theorem sv_stoH {i : Nat} (h : PS X st (tAsg te (gSub (tVar i) tk rSetL))) (rd : Red fs.fr te ρ) (rk : Red fs.fr tk κ) (hi : i ∈ O) : SV X fs L O st (stoH O i κ ρ) O := by
  refine ⟨fun pins s σ H D I ⟨F, env, g, r, hg⟩ => h.run pins s σ H D I ?_⟩
  refine rd σ H _ _ _ g r.erH (gotS_expH r hg fun d g1 H1 F2 v r1 kp hF qd hq => ?_)
  obtain ⟨xs, he, hq⟩ := gotS_ofO hq
  have he := lstAt_some he
  obtain ⟨a, vs, ev, nf, n0, ha, q⟩ := r1.lst hi he
  refine ⟨.ref a, ev, rk σ H1 _ _ _ g1 r1.erH (gotS_expH r1 hq fun k g2 H2 F3 w r2 kp2 hF2 qk hq => ?_)⟩
  obtain ⟨j, hj, hq3⟩ := gotS_ofO hq
  obtain ⟨z, rfl, hj⟩ := ixO_some hj
  obtain ⟨a', vs', ev', nf', n0', ha', q'⟩ := r2.lst hi he
  rw [ev] at ev'
  cases ev'
  obtain ⟨r3, kp3⟩ := r2.putL (ys := xs.set j d) (us := vs'.set j v) hi he ev nf' n0' ha' (q'.set j (qd.kp kp2 hF2))
  exact ⟨a, vs', z, j, rfl, r_int qk, ha', by rw [← q'.length]; exact hj, hq3 σ _ F3 r3 kp3 fun _ f => f⟩
/-- bag[i] = e: the slot i0 holds the bag -/
def bagSet (g : Bag) (i v : Int) : Option Bag := if i = 0 then some (v, g.2.1, g.2.2) else if i = 1 then some (g.1, v, g.2.2) else if i = 2 then some (g.1, g.2.1, v) else none
def isBag (env : Slots) (i : Nat) : Option Unit := match env[i]? with
  | some (some .bag) => some ()
  | _ => none
theorem isBag_some {env : Slots} {i : Nat} {u : Unit} (h : isBag env i = some u) : env[i]? = some (some .bag) := by
  unfold isBag at h
  split at h
  · rename_i e; exact e
  · cases h
def bagS (i0 : Nat) (i : Int) (ρ : EX) : SX := fun env => M.bnd (ρ env) fun d => M.bnd (M.ofO (isBag env i0)) fun _ => M.bnd (M.ofO (asI d)) fun v => fun g => match bagSet g i v with
  | some g' => .ok (.nx env) g'
  | none => .bad
/-- the bag is written -/
theorem SR.putB (r : SR fs O F env σ H g) {b : Addr} {g' : Bag} (hb : fs.fr.β = some b) : SR fs O F env σ (upd H b (.lst (bagV g'))) g' ∧ Kp F H (upd H b (.lst (bagV g'))) := by
  obtain ⟨nf, hb'⟩ := r.bag.at_ b hb
  have kp : Kp F H (upd H b (.lst (bagV g'))) := Kp.upd nf hb' fun _ z => nomatch z
  refine ⟨⟨r.len, fun j e h => ?_, r.sep, ⟨fun x f z => ?_, fun x q => ?_⟩, ⟨r.ext.mono, r.ext.new, fun x u h n => ?_, fun x h => ?_⟩, r.nb⟩, kp⟩
  · obtain ⟨u, e2, q1, q2⟩ := r.val j e h
    refine ⟨u, e2, fun hm => (q1 hm).kp kp fun _ f => f, fun hm => (q2 hm).kp kp (fun _ f => f) fun x ox ex cx hx => ?_⟩
    obtain ⟨b', o', eb', nf', n0', _, _⟩ := (q2 hm).at_ cx
    rw [ex] at eb'
    cases eb'
    refine ⟨?_, nf'⟩
    rw [upd_ne (fun z => r.neB n0' (by rw [z, hb]))]
    exact hx
  · rw [upd_ne (fun z => nf (by rw [← z]; exact f))] at z
    exact r.bag.live x f z
  · rw [hb] at q
    cases q
    exact ⟨nf, upd_same⟩
  · rw [upd_ne (fun z => n (by rw [z, hb]))]
    exact r.ext.keep x u h n
  · by_cases z : x = b
    · rw [z, upd_same] at h; cases h
    · rw [upd_ne z] at h; exact r.ext.there x h
theorem sv_bag {i0 : Nat} {i : Int} (h : PS X st (tAsg te (gSub (tVar i0) (tC (.int i)) rSetL))) (rd : Red fs.fr te ρ) : SV X fs L O st (bagS i0 i ρ) O := by
  refine ⟨fun pins s σ H D I ⟨F, env, g, r, hg⟩ => h.run pins s σ H D I ?_⟩
  refine rd σ H _ env _ g r.er (gotS_exp r hg fun d g1 H1 F2 v r1 kp ex b qd hq => ?_)
  obtain ⟨u, he, hq⟩ := gotS_ofO hq
  have he := isBag_some he
  obtain ⟨z, hz, hq⟩ := gotS_ofO hq
  have ez : v = .int z := by
    cases d with
    | int j => cases hz; exact r_int qd
    | _ => cases hz
  subst ez
  obtain ⟨v', ev, h1, h2⟩ := r1.val i0 _ he
  have hv : ∃ b, fs.fr.β = some b ∧ v' = .ref b := by
    by_cases hi : i0 ∈ O
    · exact r_bag ((Own.plain rfl).mp (h2 hi))
    · exact r_bag (h1 hi)
  obtain ⟨bb, hb, rfl⟩ := hv
  refine ⟨.ref bb, ev, ?_⟩
  have hB := (r1.bag.at_ bb hb).2
  have fin : ∀ g2, bagSet g1 i z = some g2 → ∃ j, ixN (bagV g1).length i = some j ∧ (bagV g1).set j (.int z) = bagV g2 := fun g2 e => by
    unfold bagSet at e
    split at e
    · rename_i h0; cases e; exact ⟨0, by rw [h0]; rfl, rfl⟩
    · split at e
      · rename_i h0; cases e; exact ⟨1, by rw [h0]; rfl, rfl⟩
      · split at e
        · rename_i h0; cases e; exact ⟨2, by rw [h0]; rfl, rfl⟩
        · cases e
  cases e2 : bagSet g1 i z with
  | none => rw [e2] at hq; exact (show False from hq).elim
  | some g2 =>
    rw [e2] at hq
    obtain ⟨j, hj, hs⟩ := fin g2 e2
    obtain ⟨r3, kp3⟩ := r1.putB (g' := g2) hb
    exact ⟨bb, bagV g1, i, j, rfl, rfl, hB, hj, by rw [hs]; exact hq σ _ F r3 kp3 fun _ f => f⟩
end
end VS

/-! VS10: unpacking, op=, for, while, a thing handed on. -/
namespace VS
open PySem PySem.Spec L2 RZ
open PyProof.Rows hiding St

section
variable {X : Cx} {fs : Fs} {L O O1 O2 O' : List Nat} {st : Stmt} {rest : List Stmt} {pos : Pos} {e : Expr} {σ : St} {H : Hp} {F : Reg} {env : Slots} {g : Bag} {Dn : Ends} {te tk : TE} {ρ κ : EX}
/-! ### a, b = e -/
def flatL (l : List (Nat × D)) : Bool := l.all fun p => flat p.2
theorem fits_flat {F' : Reg} {β : Option Addr} : ∀ {l : List (Nat × D)} {lv : List (Nat × V)}, flatL l = true → Fits H F β l lv → Fits H F' β l lv
  | _, _, _, .nil => .nil
  | (i, d) :: l, (j, v) :: lv, h, .cons q t => by
    have h2 : flat d = true ∧ flatL l = true := by simpa [flatL] using h
    exact .cons ⟨q.1, R.flat_ d v h2.1 q.2⟩ (fits_flat h2.2 t)
def outO (O : List Nat) (l : List (Nat × D)) : Bool := l.all fun p => decide (p.1 ∉ O)
theorem SR.sets : ∀ {l : List (Nat × D)} {lv : List (Nat × V)} {env : Slots} {σ : St}, outO O l = true → SR fs O F env σ H g → Fits H F fs.fr.β l lv → SR fs O F (setsE env l) (setsV σ lv) H g
  | _, _, _, _, _, r, .nil => r
  | (i, d) :: l, (j, v) :: lv, env, σ, ho, r, .cons h t => by
    have e : i = j := h.1
    subst e
    have h2 : i ∉ O ∧ outO O l = true := by
      have := ho
      simp only [outO, List.all_cons, Bool.and_eq_true, decide_eq_true_eq] at this
      exact this
    show SR fs O F (setsE (env.set i (some d)) l) (setsV (σ.set i (some v)) lv) H g
    exact SR.sets (env := env.set i (some d)) (σ := σ.set i (some v)) h2.2 (SR.set r h.2 i (fun _ _ => Iff.rfl) fun z => absurd z h2.1) t
def unpF (O : List Nat) (bd : BX) (ρ : EX) : SX := fun env => M.bnd (ρ env) fun d => M.bnd (M.ofO (bd d)) fun l => if flatL l = true ∧ outO O l = true then M.ret (.nx (setsE env l)) else M.bad
def unpH (O : List Nat) (bd : BX) (ρ : EX) : SX := fun env => M.bnd (ρ (hide O env)) fun d => M.bnd (M.ofO (bd d)) fun l => if outO O l = true then M.ret (.nx (setsE env l)) else M.bad
theorem sv_unpF {bd : BX} (h : PS X st (tAsg te (gV fs.fr bd))) (rd : Red fs.fr te ρ) : SV X fs L O st (unpF O bd ρ) O := by
  refine ⟨fun pins s σ H D I ⟨F, env, g, r, hg⟩ => h.run pins s σ H D I (rd σ H _ env _ g r.er (gotS_exp r hg fun d g' H' F2 v r' kp ex b q hq => ?_))⟩
  obtain ⟨l, hl, hq2⟩ := gotS_ofO hq
  obtain ⟨hc, hq3⟩ := gotS_chk hq2
  exact ⟨F2, d, l, q, hl, fun lv fi => hq3 _ H' F (r'.sets hc.2 (fits_flat hc.1 fi)) (Kp.refl F H') fun _ f => f⟩
theorem sv_unpH {bd : BX} (h : PS X st (tAsg te (gV fs.fr bd))) (rd : Red fs.fr te ρ) : SV X fs L O st (unpH O bd ρ) O := by
  refine ⟨fun pins s σ H D I ⟨F, env, g, r, hg⟩ => h.run pins s σ H D I (rd σ H _ _ _ g r.erH (gotS_expH r hg fun d g' H' F2 v r' kp hF q hq => ?_))⟩
  obtain ⟨l, hl, hq2⟩ := gotS_ofO hq
  obtain ⟨hc, hq3⟩ := gotS_chk hq2
  exact ⟨F2, d, l, q, hl, fun lv fi => hq3 _ H' F2 (r'.sets hc fi) (Kp.refl F2 H') fun _ f => f⟩
/-! ### name op= e, by ints -/
def intAt (env : Slots) (i : Nat) : Option Int := match env[i]? with
  | some (some (.int x)) => some x
  | _ => none
theorem intAt_some {env : Slots} {i : Nat} {x : Int} (h : intAt env i = some x) : env[i]? = some (some (.int x)) := by
  unfold intAt at h
  split at h
  · rename_i y e; cases h; exact e
  · cases h
theorem SR.plain (r : SR fs O F env σ H g) {i : Nat} {d : D} (he : env[i]? = some (some d)) (c : isC d = false) : ∃ v, σ[i]? = some (some v) ∧ R H F fs.fr.β d v := by
  obtain ⟨v, ev, h1, h2⟩ := r.val i d he
  by_cases hi : i ∈ O
  · exact ⟨v, ev, (Own.plain c).mp (h2 hi)⟩
  · exact ⟨v, ev, h1 hi⟩
def augI (f : Int → Int → Int) (i : Nat) (ρ : EX) : SX := fun env => M.bnd (M.ofO (intAt env i)) fun x => M.bnd (ρ env) fun d => M.bnd (M.ofO (asI d)) fun y => M.ret (.nx (env.set i (some (.int (f x y)))))
theorem asI_some {d : D} {x : Int} (h : asI d = some x) : d = .int x := by
  cases d with
  | int j => cases h; rfl
  | _ => cases h
theorem sv_aug {f : Int → Int → Int} {i : Nat} (h : PS X st (tAug i te (ipI f))) (rd : Red fs.fr te ρ) : SV X fs L O st (augI f i ρ) O := by
  refine ⟨fun pins s σ H D I ⟨F, env, g, r, hg⟩ => h.run pins s σ H D I ?_⟩
  obtain ⟨x, hx, hg2⟩ := gotS_ofO hg
  obtain ⟨v, ev, rv⟩ := r.plain (intAt_some hx) rfl
  refine ⟨v, ev, rd σ H _ env _ g r.er (gotS_exp r hg2 fun d g' H' F2 w r' kp ex b q hq => ?_)⟩
  obtain ⟨y, hy, hq2⟩ := gotS_ofO hq
  rw [asI_some hy] at q
  exact ⟨x, y, r_int rv, r_int q, hq2 _ H' F (r'.set int_r i (fun _ _ => Iff.rfl) fun _ => rfl) (Kp.refl F H') fun _ f => f⟩
/-! ### for -/
def goS (k : SX) : Fl → M Fl
  | .nx e => k e
  | .ct e => k e
  | .brk e => M.ret (.nx e)
  | .rt d => M.ret (.rt d)
def forGo (O : List Nat) (bd : BX) (ρ : SX) : List D → SX
  | [] => nxS
  | d :: ds => fun env => M.bnd (M.ofO (bd d)) fun l => if outO O l = true then M.bnd (ρ (setsE env l)) (goS (forGo O bd ρ ds)) else M.bad
def forH (O : List Nat) (ι : IX) (bd : BX) (ρ : SX) : SX := fun env => M.bnd (ι (hide O env)) fun ds => forGo O bd ρ ds env
def forF (O : List Nat) (ι : IX) (bd : BX) (ρ : SX) : SX := fun env => M.bnd (ι env) fun ds => if flats ds = true then forGo O bd ρ ds env else M.bad
theorem GotS.imp {fs : Fs} {L O1 : List Nat} {Dn Dn2 : Ends} {o : Out Fl} (h : GotS fs L O1 F H Dn o) (hn : ∀ env g, o = .ok (.nx env) g → ∀ σ' H' F', SR fs O1 F' env σ' H' g → Kp F H H' → (∀ a, F a → F' a) → Dn.nx σ' H' → Dn2.nx σ' H')
    (hb : Dn2.bk = Dn.bk) (hc : Dn2.ct = Dn.ct) (hr : Dn2.rt = Dn.rt) : GotS fs L O1 F H Dn2 o := by
  cases o with
  | bad => exact h
  | exn c p g' => exact h
  | ok fl g' =>
    cases fl with
    | nx env' => exact fun σ' H' F' r k hF => hn env' g' rfl σ' H' F' r k hF (h σ' H' F' r k hF)
    | brk env' => exact fun σ' H' F' r k hF => by rw [hb]; exact h σ' H' F' r k hF
    | ct env' => exact fun σ' H' F' r k hF => by rw [hc]; exact h σ' H' F' r k hF
    | rt d => exact fun v H' F' e b q k => by rw [hr]; exact h v H' F' e b q k
/-- one turn of a loop -/
theorem gotS_turn {k : SX} {N : St → Hp → Prop} {o : M Fl} (hg : GotS fs L O F H Dn (M.bnd o (goS k) g))
    (hN : ∀ env' g' σ' H' F', SR fs O F' env' σ' H' g' → Kp F H H' → (∀ a, F a → F' a) → GotS fs L O F' H' Dn (k env' g') → N σ' H') : GotS fs O O F H { Dn with nx := N, ct := N, bk := Dn.nx } (o g) := by
  rcases gotS_bnd hg with ⟨fl, g', ho, hg⟩ | ⟨c, p, g', ho, hg⟩
  · rw [ho]
    cases fl with
    | nx env' => exact fun σ' H' F' r' kp hF => hN env' g' σ' H' F' r' kp hF (gotS_later hg kp hF)
    | ct env' => exact fun σ' H' F' r' kp hF => hN env' g' σ' H' F' r' kp hF (gotS_later hg kp hF)
    | brk env' => exact hg
    | rt d => exact hg
  · rw [ho]; exact hg
theorem for_core {J : It} {ds : List D} {bd : BX} {ρb : SX} {F1 : Reg} (r : SR fs O F1 env σ H g) (w : WkOk fs.fr.β F H J ds) (hF : ∀ a, F a → F1 a) (hfl : flats ds = true ∨ ∀ a, F1 a → F a)
    (hg : GotS fs L O F1 H Dn (forGo O bd ρb ds env g)) :
    ∃ W : Nat → Nat → St → Hp → Prop, (∃ m, W 0 m σ H) ∧ ∀ i m σ H, W i m σ H →
      (J.stop i H ∧ Dn.nx σ H) ∨ (J.go i H ∧ ∃ N : St → Hp → Prop, (∀ σ' H', N σ' H' → ∃ m', m' < m ∧ W (i + 1) m' σ' H') ∧ ∀ x H', J.yld i H x H' → gV fs.fr bd x σ H' fun σ2 H2 => tS fs O O O ρb { Dn with nx := N, ct := N, bk := Dn.nx } σ2 H2) := by
  obtain ⟨G, Y, wk, hG, hy⟩ := w
  refine for_it wk (fun k σ' H' => ∃ F' env' g', SR fs O F' env' σ' H' g' ∧ Kp F H H' ∧ (∀ a, F1 a → F' a) ∧ GotS fs L O F' H' Dn (forGo O bd ρb (ds.drop k) env' g')) ⟨F1, env, g, r, Kp.refl F H, fun _ f => f, by simpa using hg⟩ (fun i σ' H' _ ⟨F', _, _, _, k, _, _⟩ => hG H' k) ?_ ?_
  · rintro i x σ1 H1 H2 hi ⟨F2, env1, g1, r1, k1, hF1, hg1⟩ y
    obtain ⟨d, hd, ex, hb, q⟩ := hy i H1 F2 x H2 hi k1 (fun a f => hF1 a (hF a f)) (fun b e => ⟨_, (r1.bag.at_ b e).2⟩) y
    obtain ⟨r2, k2⟩ := r1.backH (F' := F2) ex (r1.bag.ext ex hb fun a f z => r1.bag.live a f (ex.there a z))
    have hdr : ds.drop i = d :: ds.drop (i + 1) := by
      have hlt : i < ds.length := hi
      rw [List.drop_eq_getElem_cons hlt]
      rw [List.getElem?_eq_getElem hlt] at hd
      cases hd
      rfl
    rw [hdr] at hg1
    obtain ⟨l, hl, hg2⟩ := gotS_ofO hg1
    obtain ⟨hc, hg3⟩ := gotS_chk hg2
    refine ⟨F2, d, l, q, hl, fun lv fi => ⟨F2, setsE env1 l, g1, r2.sets hc fi, gotS_turn (gotS_later hg3 k2 fun _ f => f) fun env' g' σ' H' F' r' kp hF' hgk => ⟨F', env', g', r', (k1.trans (k2.trans kp fun _ f => f) fun a f => hF1 a (hF a f)), fun a f => hF' a (hF1 a f), hgk⟩⟩⟩
  · rintro σ1 H1 ⟨F2, env1, g1, r1, k1, hF1, hg1⟩
    rw [List.drop_length] at hg1
    exact hg1 σ1 H1 F2 r1 (Kp.refl F2 H1) fun _ f => f
theorem gotS_itH {ι : IX} {P : It → Hp → Prop} {f : List D → M Fl} (r : SR fs O F env σ H g) (hg : GotS fs L O' F H Dn (M.bnd (ι (hide O env)) f g))
    (k : ∀ ds g' J H' F2, SR fs O F2 env σ H' g' → Kp F H H' → (∀ a, F a → F2 a) → WkOk fs.fr.β F2 H' J ds → GotS fs L O' F2 H' Dn (f ds g') → P J H') : GotI fs.fr F σ H P (ι (hide O env) g) := by
  rcases gotS_bnd hg with ⟨ds, g', ho, hg⟩ | ⟨c, p, g', ho, hg⟩
  · rw [ho]
    intro J H' F2 ex b q
    obtain ⟨r', kp⟩ := r.backH ex b
    exact k ds g' J H' F2 r' kp ex.mono q (gotS_later hg kp ex.mono)
  · rw [ho]
    intro H' F2 cls dd ex b q
    exact hg σ H' F2 cls dd (r.ext.trans ex) b q
theorem sv_forH {tg iter : Expr} {body : List Stmt} {ι : IX} {bd : BX} {ρb : SX} (hp : PassesOwn (model X.prog X.w) X.A X.env X.xe) (hc : X.calm = true) (hi : IV X fs.fr tg iter ι) (hb : BV X fs.fr tg bd) (hs : SVs X fs O O body ρb O)
    (hf : ∀ x, foldedSetIterable iter X.env x = pure x := by intro _; rfl) : SV X fs L O (.For tg iter body [] pos) (forH O ι bd ρb) O := by
  refine ⟨fun pins s σ H D I ⟨F, env, g, r, hg⟩ => (ps_for hp hc hi hb hs hf).run pins s σ H D I ⟨hide O env, F, g, r.erH, gotS_itH r hg fun ds g' J H' F2 r' kp hF w hq => ?_⟩⟩
  exact for_core r' w (fun _ f => f) (.inr fun _ f => f) hq
/-! ### while -/
def whileGo (τ : TX) (ρ : SX) : Nat → SX
  | 0 => fun _ => M.bad
  | n + 1 => fun env => M.bnd (τ env) fun c => if c then M.bnd (ρ env) (goS (whileGo τ ρ n)) else M.ret (.nx env)
open Classical in
noncomputable def whileS (τ : TX) (ρ : SX) : SX := fun env g => if h : ∃ n, whileGo τ ρ n env g ≠ .bad then whileGo τ ρ h.choose env g else .bad
theorem whileGo_mono {τ : TX} {ρ : SX} : ∀ {n m : Nat} {env : Slots} {g : Bag}, n ≤ m → whileGo τ ρ n env g ≠ .bad → whileGo τ ρ m env g = whileGo τ ρ n env g
  | 0, _, _, _, _, h => absurd rfl h
  | n + 1, 0, _, _, hl, _ => absurd hl (by omega)
  | n + 1, m + 1, env, g, hl, h => by
    unfold whileGo M.bnd at h ⊢
    cases hτ : τ env g with
    | bad => rfl
    | exn c p g' => rfl
    | ok c g' =>
      rw [hτ] at h
      cases c with
      | false => rfl
      | true =>
        simp only [if_true] at h ⊢
        cases hρ : ρ env g' with
        | bad => rfl
        | exn c p g2 => rfl
        | ok fl g2 =>
          rw [hρ] at h
          cases fl with
          | nx e => exact whileGo_mono (by omega) h
          | ct e => exact whileGo_mono (by omega) h
          | brk e => rfl
          | rt d => rfl
theorem whileS_of {τ : TX} {ρ : SX} {n : Nat} {env : Slots} {g : Bag} (h : whileGo τ ρ n env g ≠ .bad) : whileS τ ρ env g = whileGo τ ρ n env g := by
  unfold whileS
  rw [dif_pos ⟨n, h⟩]
  have q := (⟨n, h⟩ : ∃ n, whileGo τ ρ n env g ≠ .bad).choose_spec
  rcases Nat.le_total n (⟨n, h⟩ : ∃ n, whileGo τ ρ n env g ≠ .bad).choose with z | z
  · exact whileGo_mono z h
  · exact (whileGo_mono z q).symm
theorem sv_while {c : Expr} {body : List Stmt} {τ : TX} {ρb : SX} (hp : PassesOwn (model X.prog X.w) X.A X.env X.xe) (hc : TV X fs.fr c τ) (hs : SVs X fs O O body ρb O) : SV X fs L O (.While c body [] pos) (whileS τ ρb) O := by
  refine ⟨fun pins s σ H D I ⟨F, env, g, r, hg⟩ => (ps_while hp hc hs).run pins s σ H D I ?_⟩
  refine ⟨fun m σ' H' => ∃ F' env' g', SR fs O F' env' σ' H' g' ∧ GotS fs L O F' H' D (whileGo τ ρb m env' g'), ?_, ?_⟩
  · unfold whileS at hg
    split at hg
    · rename_i h
      exact ⟨h.choose, F, env, g, r, hg⟩
    · exact (show False from hg).elim
  · rintro m σ1 H1 ⟨F1, env1, g1, r1, hg1⟩
    cases m with
    | zero => exact (show False from hg1).elim
    | succ n =>
      refine ⟨env1, _, g1, r1.er, gotS_test r1 hg1 fun d g' H' r' kp hq => ?_⟩
      cases d with
      | true =>
        rw [if_pos rfl] at hq ⊢
        exact ⟨fun σ' H' => ∃ F' env' g', SR fs O F' env' σ' H' g' ∧ GotS fs L O F' H' D (whileGo τ ρb n env' g'), fun σ' H' w => ⟨n, Nat.lt_succ_self n, w⟩, F1, env1, g', r', gotS_turn hq fun env' g' σ' H' F' r' kp hF hgk => ⟨F', env', g', r', hgk⟩⟩
      | false => exact hq σ1 H' F1 r' (Kp.refl F1 H') fun _ f => f
end
end VS

/-! VS11: dicts. -/
namespace VS
open PySem PySem.Spec L2 RZ
open PyProof.Rows hiding St

/-! ### under a lock -/
def dictO : HO → Prop
  | .dK _ => True
  | .dT _ => True
  | _ => False
section
variable {H : Hp} {F : Reg} {β : Option Addr} {dd : Addr} {u : HO} {od : Obj}
mutual
theorem R.lock (hd : H dd = some u) (hu : dictO u) : ∀ (d : D) (v : V), R H F β d v → R (upd H dd (.frz od u)) F β d v
  | .non, _, h => h
  | .bl _, _, h => h
  | .int _, _, h => h
  | .str _, _, h => h
  | .tup xs, v, h => by
    unfold R at h ⊢
    obtain ⟨a, vs, e, q, r⟩ := h
    exact ⟨a, vs, e, by rw [upd_ne (fun z => by rw [z, hd] at q; cases q; exact hu)]; exact q, Rs.lock hd hu xs vs r⟩
  | .lst xs, v, h => by
    unfold R at h ⊢
    obtain ⟨a, vs, e, f, q, r⟩ := h
    exact ⟨a, vs, e, f, by rw [upd_ne (fun z => by rw [z, hd] at q; cases q; exact hu)]; exact q, Rs.lock hd hu xs vs r⟩
  | .dK ks xs, v, h => by
    unfold R at h ⊢
    obtain ⟨a, kv, e, f, q, ek, r⟩ := h
    refine ⟨a, kv, e, f, ?_, ek, Rs.lock hd hu xs _ r⟩
    by_cases z : a = dd
    · subst z
      rcases q with q | ⟨o, q⟩
      · rw [hd] at q; cases q; exact .inr ⟨od, upd_same⟩
      · rw [hd] at q; cases q; exact hu.elim
    · unfold Rd
      rw [upd_ne z]
      exact q
  | .dT ks xs, v, h => by
    unfold R at h ⊢
    obtain ⟨a, kv, e, f, q, ek, r⟩ := h
    refine ⟨a, kv, e, f, ?_, ek, Rs.lock hd hu xs _ r⟩
    by_cases z : a = dd
    · subst z
      rcases q with q | ⟨o, q⟩
      · rw [hd] at q; cases q; exact .inr ⟨od, upd_same⟩
      · rw [hd] at q; cases q; exact hu.elim
    · unfold Rd
      rw [upd_ne z]
      exact q
  | .bag, _, h => h
theorem Rs.lock (hd : H dd = some u) (hu : dictO u) : ∀ (ds : List D) (vs : List V), Rs H F β ds vs → Rs (upd H dd (.frz od u)) F β ds vs
  | [], _, h => h
  | d :: ds, vs, h => by
    unfold Rs at h ⊢
    obtain ⟨v, r, e, h1, h2⟩ := h
    exact ⟨v, r, e, R.lock hd hu d v h1, Rs.lock hd hu ds r h2⟩
end
mutual
theorem R.unlock (hd : H dd = some (.frz od u)) : ∀ (d : D) (v : V), R H F β d v → R (upd H dd u) F β d v
  | .non, _, h => h
  | .bl _, _, h => h
  | .int _, _, h => h
  | .str _, _, h => h
  | .tup xs, v, h => by
    unfold R at h ⊢
    obtain ⟨a, vs, e, q, r⟩ := h
    exact ⟨a, vs, e, by rw [upd_ne (fun z => by rw [z, hd] at q; cases q)]; exact q, Rs.unlock hd xs vs r⟩
  | .lst xs, v, h => by
    unfold R at h ⊢
    obtain ⟨a, vs, e, f, q, r⟩ := h
    exact ⟨a, vs, e, f, by rw [upd_ne (fun z => by rw [z, hd] at q; cases q)]; exact q, Rs.unlock hd xs vs r⟩
  | .dK ks xs, v, h => by
    unfold R at h ⊢
    obtain ⟨a, kv, e, f, q, ek, r⟩ := h
    refine ⟨a, kv, e, f, ?_, ek, Rs.unlock hd xs _ r⟩
    by_cases z : a = dd
    · subst z
      rcases q with q | ⟨o, q⟩
      · rw [hd] at q; cases q
      · rw [hd] at q; cases q; exact .inl upd_same
    · unfold Rd
      rw [upd_ne z]
      exact q
  | .dT ks xs, v, h => by
    unfold R at h ⊢
    obtain ⟨a, kv, e, f, q, ek, r⟩ := h
    refine ⟨a, kv, e, f, ?_, ek, Rs.unlock hd xs _ r⟩
    by_cases z : a = dd
    · subst z
      rcases q with q | ⟨o, q⟩
      · rw [hd] at q; cases q
      · rw [hd] at q; cases q; exact .inl upd_same
    · unfold Rd
      rw [upd_ne z]
      exact q
  | .bag, _, h => h
theorem Rs.unlock (hd : H dd = some (.frz od u)) : ∀ (ds : List D) (vs : List V), Rs H F β ds vs → Rs (upd H dd u) F β ds vs
  | [], _, h => h
  | d :: ds, vs, h => by
    unfold Rs at h ⊢
    obtain ⟨v, r, e, h1, h2⟩ := h
    exact ⟨v, r, e, R.unlock hd d v h1, Rs.unlock hd ds r h2⟩
end
theorem BagOk.over {g : Bag} (b : BagOk β F H g) {o o' : HO} (hd : H dd = some o) (hn : ∀ xs, o ≠ .lst xs) : BagOk β F (upd H dd o') g :=
  ⟨fun a f z => by
    by_cases e : a = dd
    · rw [e, upd_same] at z; cases z
    · rw [upd_ne e] at z; exact b.live a f z, fun x q => ⟨(b.at_ x q).1, by rw [upd_ne (fun e => by have := (b.at_ x q).2; rw [e, hd] at this; exact hn _ (Option.some.inj this))]; exact (b.at_ x q).2⟩⟩
end
/-! ### the walk over the keys -/
def keysAt (env : Slots) (i : Nat) : Option (List D) := match env[i]? with
  | some (some (.dK ks _)) => some (ks.map kD)
  | some (some (.dT ks _)) => some (ks.map tD)
  | _ => none
def keysI (i : Nat) : IX := fun env => M.ofO (keysAt env i)
theorem kD_r {H : Hp} {F : Reg} {β : Option Addr} {k : Key} : R H F β (kD k) (kV k) := by
  cases k with
  | inl i => exact int_r
  | inr x => exact str_r
theorem ksD_r {H : Hp} {F : Reg} {β : Option Addr} : ∀ {ks : List Key}, Rs H F β (ks.map kD) (ks.map kV)
  | [] => .nil
  | k :: ks => .cons kD_r ksD_r
theorem tD_r {H : Hp} {F : Reg} {β : Option Addr} {k : List Key} {q : Addr} (h : H q = some (.tup (k.map kV))) : R H F β (tD k) (.ref q) := by
  unfold tD R
  exact ⟨q, _, rfl, h, ksD_r⟩
theorem wk_keys {β : Option Addr} {F : Reg} {H : Hp} {d : Addr} {o : Obj} {kv : List (Key × V)} (f : F d) (h : H d = some (.frz o (.dK kv))) : WkOk β F H (Itk d o kv) ((kv.map (·.1)).map kD) := by
  refine ⟨_, _, by rw [List.length_map, List.length_map]; exact walk_keys, fun H1 k => k.reg d _ f h, fun i H1 F1 x H2 hi k hF hb y => ?_⟩
  obtain ⟨rfl, ke, v, e, rfl⟩ := y
  exact ⟨kD ke, by simp [e], Ext.refl _ _ _, fun _ _ => rfl, kD_r⟩
theorem wk_keysT {β : Option Addr} {F : Reg} {H : Hp} {d : Addr} {o : Obj} {kv : List (List Key × V)} (f : F d) (h : H d = some (.frz o (.dT kv))) : WkOk β F H (Itkt d o kv) ((kv.map (·.1)).map tD) := by
  refine ⟨_, _, by rw [List.length_map, List.length_map]; exact walk_keysT, fun H1 k => k.reg d _ f h, fun i H1 F1 x H2 hi k hF hb y => ?_⟩
  obtain ⟨rfl, ke, v, q, e, rfl, hq⟩ := y
  exact ⟨tD ke, by simp [e], Ext.refl _ _ _, fun _ _ => rfl, tD_r hq⟩
/-- what the slot i holds is a dict, at d -/
theorem keysAt_some {env : Slots} {i : Nat} {ds : List D} {v : V} {H : Hp} {F : Reg} {β : Option Addr} (h : keysAt env i = some ds) (q : ∀ d, env[i]? = some (some d) → R H F β d v) :
    ∃ d u, v = .ref d ∧ F d ∧ Rd H d u ∧ dictO u ∧ ((∃ kv, u = .dK kv ∧ ds = (kv.map (·.1)).map kD) ∨ ∃ kv, u = .dT kv ∧ ds = (kv.map (·.1)).map tD) := by
  unfold keysAt at h
  split at h
  · rename_i ks xs e
    cases h
    obtain ⟨a, kv, rfl, f, h1, rfl, r⟩ := r_dK (q _ e)
    exact ⟨a, _, rfl, f, h1, trivial, .inl ⟨kv, rfl, rfl⟩⟩
  · rename_i ks xs e
    cases h
    obtain ⟨a, kv, rfl, f, h1, rfl, r⟩ := r_dT (q _ e)
    exact ⟨a, _, rfl, f, h1, trivial, .inr ⟨kv, rfl, rfl⟩⟩
  · cases h
theorem keysAt_d {env : Slots} {i : Nat} {ds : List D} (h : keysAt env i = some ds) : ∃ d, env[i]? = some (some d) ∧ isC d = true := by
  unfold keysAt at h
  split at h
  · rename_i ks xs e; exact ⟨_, e, rfl⟩
  · rename_i ks xs e; exact ⟨_, e, rfl⟩
  · cases h
section
variable {X : Cx} {fr : Fr} {pos : Pos} {e : Expr} {es : List Expr} {ρ : EX} {tg : Expr}
theorem keysI_wk {i : Nat} {σ : St} {H : Hp} {P : It → Hp → Prop} {env : Slots} {F : Reg} {g : Bag} {d : Addr} {u : HO} {o : Obj} (b : BagOk fr.β F H g) (hd : H d = some (.frz o u)) (f : F d) (es : σ[i]? = some (some (.ref d))) {ds : List D} (hk : keysAt env i = some ds)
    (hu : (∃ kv, u = .dK kv ∧ ds = (kv.map (·.1)).map kD) ∨ ∃ kv, u = .dT kv ∧ ds = (kv.map (·.1)).map tD) (hg : GotI fr F σ H P (keysI i env g)) : iKeys (tVar i) σ H P := by
  unfold keysI at hg
  rw [hk] at hg
  have hg : ∀ J H' F', Ext fr.β F H F' H' → BagOk fr.β F' H' g → WkOk fr.β F' H' J ds → P J H' := hg
  refine ⟨.ref d, es, d, o, rfl, ?_⟩
  rcases hu with ⟨kv, rfl, rfl⟩ | ⟨kv, rfl, rfl⟩
  · exact .inl ⟨kv, hd, hg _ H F (Ext.refl _ _ _) b (wk_keys f hd)⟩
  · exact .inr ⟨kv, hd, hg _ H F (Ext.refl _ _ _) b (wk_keysT f hd)⟩
theorem ER.lock {env : Slots} {σ : St} {H : Hp} {F : Reg} {g : Bag} (r : ER fr F env σ H g) {d : Addr} {u : HO} {od : Obj} (hd : H d = some u) (hu : dictO u) : ER fr F env σ (upd H d (.frz od u)) g :=
  ⟨r.len, fun i x e => let ⟨v, ev, q⟩ := r.val i x e; ⟨v, ev, R.lock hd hu x v q⟩, r.bag.over hd fun xs z => by rw [z] at hu; exact hu⟩
theorem Ext.lock {β : Option Addr} {H H' : Hp} {F F' : Reg} {d : Addr} {u : HO} {od : Obj} (hd : H d = some u) (e : Ext β F (upd H d (.frz od u)) F' H') : Ext β F H F' (upd H' d u) :=
  ⟨e.mono, fun a f => (e.new a f).imp id fun z => by
    by_cases h : a = d
    · rw [h, upd_same] at z; cases z
    · rw [upd_ne h] at z; exact z, fun a o h n => by
    by_cases z : a = d
    · rw [z, hd] at h; cases h; rw [z]; exact upd_same
    · rw [upd_ne z]; exact e.keep a o (by rw [upd_ne z]; exact h) n, fun a h => by
    by_cases z : a = d
    · rw [z, upd_same] at h; cases h
    · rw [upd_ne z] at h
      have q := e.there a h
      rw [upd_ne z] at q
      exact q⟩
/-- the comprehension over the keys of the slot i -/
theorem ev_keys {i : Nat} {bd : BX} {τ : TX} {vs : List Nat} (h : PE X e (tLc (iKeys (tVar i)) (gV fr bd) (tT fr τ) (tE fr ρ) vs)) (hvs : Sub vs bd) : EV X fr e (lcE (keysI i) bd τ ρ vs) := by
  refine ⟨fun pins s σ H Q I ⟨env, F, g, r, hg⟩ => ?_⟩
  have hk : ∃ ds, keysAt env i = some ds := by
    unfold lcE keysI at hg
    cases q : keysAt env i with
    | none => rw [q] at hg; exact hg.elim
    | some ds => exact ⟨ds, rfl⟩
  obtain ⟨ds, hk⟩ := hk
  obtain ⟨x, ex, _⟩ := keysAt_d hk
  obtain ⟨v, ev, _⟩ := r.val i x ex
  obtain ⟨d, u, rfl, f, hr, hdo, hu⟩ := keysAt_some hk (fun y ey => by
    obtain ⟨v2, ev2, q⟩ := r.val i y ey
    rw [ev] at ev2
    cases ev2
    exact q)
  rcases hr with hd | ⟨o, hd⟩
  · refine (pe_lock h).run pins s σ H Q I ⟨d, u, hd, by unfold Mut; cases u <;> first | trivial | exact hdo, fun od => ?_⟩
    have r1 := r.lock (od := od) hd hdo
    refine keysI_wk (P := lcP (gV fr bd) (tT fr τ) (tE fr ρ) vs σ fun v H' => H' d = some (.frz od u) ∧ Q v (upd H' d u)) r1.bag upd_same f ev hk hu (lc_gotI (ι := keysI i) (τ := τ) (ρ := ρ) r1 hvs (GotN.of ?_))
    cases ho : lcE (keysI i) bd τ ρ vs env g with
    | bad => rw [ho] at hg; exact hg
    | ok y g' =>
      rw [ho] at hg
      intro w H' F' ex1 b1 q1
      have hd' : H' d = some (.frz od u) := ex1.keep d _ upd_same (r1.bag.ne f)
      exact ⟨hd', hg w _ F' (ex1.lock hd) (b1.over hd' (fun xs z => by cases z)) (R.unlock hd' y w q1)⟩
    | exn c p g' =>
      exfalso
      unfold lcE at ho
      exact bnd_noexn (fun c p g' z => by unfold keysI at z; rw [hk] at z; cases z) (fun a g1 c p g' z => by
        by_cases hl : a.length ≤ line
        · rw [if_pos hl] at z
          exact bnd_noexn (fun c p g' z => lcGo_noexn _ _ _ _ _ _ _ _ _ z) (fun _ _ _ _ _ z => by cases z) c p g' z
        · rw [if_neg hl] at z; cases z) c p g' ho
  · exact h.run pins s σ H Q I (keysI_wk (P := lcP (gV fr bd) (tT fr τ) (tE fr ρ) vs σ Q) r.bag hd f ev hk hu (lc_gotI r hvs (GotN.of hg)))
end
end VS

/-! VS12: for over a dict; dict reads and writes; a thing handed on. -/
namespace VS
open PySem PySem.Spec L2 RZ
open PyProof.Rows hiding St

section
variable {X : Cx} {fs : Fs} {L O O1 O2 O' : List Nat} {st : Stmt} {rest : List Stmt} {pos : Pos} {e : Expr} {σ : St} {H : Hp} {F : Reg} {env : Slots} {g : Bag} {Dn : Ends} {te tk : TE} {ρ κ : EX}
theorem Own.lock {d : D} {v : V} {dd : Addr} {u : HO} {od : Obj} (h : Own fs H F d v) (hd : H dd = some u) (hu : dictO u) (hn : ∀ a, v = .ref a → isC d = true → a ≠ dd) : Own fs (upd H dd (.frz od u)) F d v := by
  cases d with
  | lst xs =>
    obtain ⟨a, vs, rfl, nf, n0, ha, q⟩ := h
    exact ⟨a, vs, rfl, nf, n0, by rw [upd_ne (hn a rfl rfl)]; exact ha, Rs.lock hd hu _ _ q⟩
  | dK ks xs =>
    obtain ⟨a, kv, rfl, nf, n0, ha, ek, q⟩ := h
    exact ⟨a, kv, rfl, nf, n0, by rw [upd_ne (hn a rfl rfl)]; exact ha, ek, Rs.lock hd hu _ _ q⟩
  | dT ks xs =>
    obtain ⟨a, kv, rfl, nf, n0, ha, ek, q⟩ := h
    exact ⟨a, kv, rfl, nf, n0, by rw [upd_ne (hn a rfl rfl)]; exact ha, ek, Rs.lock hd hu _ _ q⟩
  | _ => exact R.lock hd hu _ _ h
theorem Own.unlock {d : D} {v : V} {dd : Addr} {u : HO} {od : Obj} (h : Own fs H F d v) (hd : H dd = some (.frz od u)) : Own fs (upd H dd u) F d v := by
  cases d with
  | lst xs =>
    obtain ⟨a, vs, rfl, nf, n0, ha, q⟩ := h
    exact ⟨a, vs, rfl, nf, n0, by rw [upd_ne (fun z => by rw [z, hd] at ha; cases ha)]; exact ha, Rs.unlock hd _ _ q⟩
  | dK ks xs =>
    obtain ⟨a, kv, rfl, nf, n0, ha, ek, q⟩ := h
    exact ⟨a, kv, rfl, nf, n0, by rw [upd_ne (fun z => by rw [z, hd] at ha; cases ha)]; exact ha, ek, Rs.unlock hd _ _ q⟩
  | dT ks xs =>
    obtain ⟨a, kv, rfl, nf, n0, ha, ek, q⟩ := h
    exact ⟨a, kv, rfl, nf, n0, by rw [upd_ne (fun z => by rw [z, hd] at ha; cases ha)]; exact ha, ek, Rs.unlock hd _ _ q⟩
  | _ => exact R.unlock hd _ _ h
theorem SR.lock (r : SR fs O F env σ H g) {dd : Addr} {u : HO} {od : Obj} (f : F dd) (hd : H dd = some u) (hu : dictO u) (n0 : fs.H0 dd = none) : SR fs O F env σ (upd H dd (.frz od u)) g := by
  refine ⟨r.len, fun i d e => ?_, r.sep, r.bag.over hd (fun xs z => by rw [z] at hu; exact hu), ⟨r.ext.mono, r.ext.new, fun a o h n => ?_, fun a h => ?_⟩, r.nb⟩
  · obtain ⟨v, ev, h1, h2⟩ := r.val i d e
    refine ⟨v, ev, fun hi => R.lock hd hu d v (h1 hi), fun hi => (h2 hi).lock hd hu fun a ea c z => ?_⟩
    obtain ⟨b, o, eb, nf, _⟩ := (h2 hi).at_ c
    rw [ea] at eb
    cases eb
    exact nf (by rw [z]; exact f)
  · rw [upd_ne (fun z => by rw [z, n0] at h; cases h)]
    exact r.ext.keep a o h n
  · by_cases z : a = dd
    · rw [z]; exact n0
    · rw [upd_ne z] at h; exact r.ext.there a h
theorem Ext.unlock2 {β : Option Addr} {F0 F : Reg} {H0 : Hp} {dd : Addr} {u : HO} (e : Ext β F0 H0 F H) (n0 : H0 dd = none) : Ext β F0 H0 F (upd H dd u) := by
  refine ⟨e.mono, e.new, fun a o h n => ?_, fun a h => ?_⟩
  · rw [upd_ne (fun z => by rw [z, n0] at h; cases h)]
    exact e.keep a o h n
  · by_cases z : a = dd
    · rw [z]; exact n0
    · rw [upd_ne z] at h; exact e.there a h
theorem SR.unlock (r : SR fs O F env σ H g) {dd : Addr} {u : HO} {od : Obj} (hd : H dd = some (.frz od u)) (n0 : fs.H0 dd = none) : SR fs O F env σ (upd H dd u) g := by
  refine ⟨r.len, fun i d e => ?_, r.sep, r.bag.over hd (fun xs z => by cases z), r.ext.unlock2 n0, r.nb⟩
  obtain ⟨v, ev, h1, h2⟩ := r.val i d e
  exact ⟨v, ev, fun hi => R.unlock hd d v (h1 hi), fun hi => (h2 hi).unlock hd⟩
/-- the walk over the keys of the dict that slot i alone holds; held still from here on -/
def forK (O : List Nat) (i : Nat) (bd : BX) (ρ : SX) : SX := fun env => M.bnd (M.ofO (keysAt env i)) fun ds => forGo O bd ρ ds env
theorem unlockKp {F : Reg} {H H' : Hp} {dd : Addr} {u : HO} {od : Obj} (hd : H dd = some u) (hu : dictO u) (k : Kp F (upd H dd (.frz od u)) H') : Kp F H (upd H' dd u) :=
  ⟨fun a xs h => by
    have ne : a ≠ dd := fun z => by rw [z, hd] at h; cases h; exact hu
    rw [upd_ne ne]
    exact k.tup a xs (by rw [upd_ne ne]; exact h), fun a o f h => by
    by_cases z : a = dd
    · rw [z, hd] at h; cases h; rw [z]; exact upd_same
    · rw [upd_ne z]; exact k.reg a o f (by rw [upd_ne z]; exact h)⟩
theorem sv_forK {i : Nat} {tg iter : Expr} {body : List Stmt} {bd : BX} {ρb : SX} (hp : PassesOwn (model X.prog X.w) X.A X.env X.xe) (hc : X.calm = true) (hv : PE X iter (tVar i)) (hb : BV X fs.fr tg bd) (hs : SVs X fs O1 O1 body ρb O1)
    (hi : i ∈ O) (hO : ∀ j, j ∈ O1 → j ∈ O ∧ j ≠ i)
    (hf : ∀ x, foldedSetIterable iter X.env x = pure x := by intro _; rfl) : SV X fs L O (.For tg iter body [] pos) (forK O1 i bd ρb) O1 := by
  refine ⟨fun pins s σ H D I ⟨F, env, g, r, hg⟩ => ?_⟩
  obtain ⟨ds, hk, hg⟩ := gotS_ofO hg
  obtain ⟨x, ex, cx⟩ := keysAt_d hk
  obtain ⟨v0, ev0, _, ho⟩ := r.val i x ex
  obtain ⟨a0, o0, rfl, nf0, n00, hH0, _⟩ := (ho hi).at_ cx
  have r1 := r.freeze (O' := O1) (fun j h => (hO j h).1)
  have hi1 : i ∉ O1 := fun h => (hO i h).2 rfl
  obtain ⟨v, ev, hR, _⟩ := r1.val i x ex
  obtain ⟨d, u, rfl, f, hr, hdo, hu⟩ := keysAt_some hk (fun y ey => by rw [ex] at ey; cases ey; exact hR hi1)
  rw [ev0] at ev
  cases ev
  have hd : H a0 = some u := by
    rcases hr with hd | ⟨o, hd⟩
    · exact hd
    · exfalso
      have := ho hi
      cases x with
      | lst xs => unfold keysAt at hk; rw [ex] at hk; cases hk
      | dK ks xs => obtain ⟨a, kv, e, _, _, ha, _⟩ := this; cases e; rw [hd] at ha; cases ha
      | dT ks xs => obtain ⟨a, kv, e, _, _, ha, _⟩ := this; cases e; rw [hd] at ha; cases ha
      | _ => cases cx
  refine (ps_lock (ps_for hp hc (pi_keys hv) hb hs hf)).run pins s σ H D I ⟨a0, u, hd, by unfold Mut; cases u <;> first | trivial | exact hdo, fun od => ?_⟩
  have r2 := r1.lock (od := od) f hd hdo n00
  refine keysI_wk (fr := fs.fr) (env := env) (g := g) r2.bag upd_same f ev0 hk hu ?_
  unfold keysI
  rw [hk]
  intro J H' F' ex2 b2 wk
  obtain ⟨r3, k3⟩ := r2.backH ex2 b2
  refine for_core (L := L) r3 wk (fun _ f => f) (.inr fun _ f => f) ?_
  have fin : ∀ {H2 : Hp} {F2 : Reg}, Kp F' H' H2 → (∀ a, F' a → F2 a) → H2 a0 = some (.frz od u) := fun k hF => k.reg a0 _ (ex2.mono a0 f) (k3.reg a0 _ f upd_same)
  have hg2 := gotS_later hg (Kp.refl F H) (F1 := fun a => F a ∨ held (O.filter (· ∉ O1)) env σ a) fun _ f => .inl f
  cases ho2 : forGo O1 bd ρb ds env g with
  | bad => rw [ho2] at hg2; exact hg2
  | exn c p g' => rw [ho2] at hg2; exact hg2
  | ok fl g' =>
    rw [ho2] at hg2
    cases fl with
    | nx env' => exact fun σ' H2 F2 r' k hF => ⟨fin k hF, hg2 σ' _ F2 (r'.unlock (fin k hF) n00) (unlockKp hd hdo (k3.trans k ex2.mono)) fun a h => hF a (ex2.mono a h)⟩
    | brk env' => exact fun σ' H2 F2 r' k hF => ⟨fin k hF, hg2 σ' _ F2 (r'.unlock (fin k hF) n00) (unlockKp hd hdo (k3.trans k ex2.mono)) fun a h => hF a (ex2.mono a h)⟩
    | ct env' => exact fun σ' H2 F2 r' k hF => ⟨fin k hF, hg2 σ' _ F2 (r'.unlock (fin k hF) n00) (unlockKp hd hdo (k3.trans k ex2.mono)) fun a h => hF a (ex2.mono a h)⟩
    | rt y => exact fun v H2 F2 e b q k => ⟨k.reg a0 _ (ex2.mono a0 f) (k3.reg a0 _ f upd_same), hg2 v _ F2 (e.unlock2 n00) (b.over (k.reg a0 _ (ex2.mono a0 f) (k3.reg a0 _ f upd_same)) fun xs z => by cases z) (R.unlock (k.reg a0 _ (ex2.mono a0 f) (k3.reg a0 _ f upd_same)) y v q) (unlockKp hd hdo (k3.trans k ex2.mono))⟩
end
end VS

/-! VS13: built-ins. -/
namespace VS
open PySem PySem.Spec L2 RZ
open PyProof.Rows hiding St

def intsOf : List D → Option (List Int)
  | [] => some []
  | .int i :: r => (intsOf r).map (i :: ·)
  | _ => none
theorem intsOf_some : ∀ {ds : List D} {ns : List Int}, intsOf ds = some ns → ds = ns.map D.int
  | [], ns, h => by cases h; rfl
  | .int i :: r, ns, h => by
    simp only [intsOf, Option.map_eq_some_iff] at h
    obtain ⟨m, h, rfl⟩ := h
    rw [List.map_cons, ← intsOf_some h]
  | .non :: _, _, h => by cases h
  | .bl _ :: _, _, h => by cases h
  | .str _ :: _, _, h => by cases h
  | .tup _ :: _, _, h => by cases h
  | .lst _ :: _, _, h => by cases h
  | .dK _ _ :: _, _, h => by cases h
  | .dT _ _ :: _, _, h => by cases h
  | .bag :: _, _, h => by cases h
theorem intsOf_map : ∀ ns : List Int, intsOf (ns.map D.int) = some ns
  | [] => rfl
  | i :: r => by simp [intsOf, intsOf_map r]
def blsOf : List D → Option (List Bool)
  | [] => some []
  | .bl i :: r => (blsOf r).map (i :: ·)
  | _ => none
theorem blsOf_some : ∀ {ds : List D} {ns : List Bool}, blsOf ds = some ns → ds = ns.map D.bl
  | [], ns, h => by cases h; rfl
  | .bl i :: r, ns, h => by
    simp only [blsOf, Option.map_eq_some_iff] at h
    obtain ⟨m, h, rfl⟩ := h
    rw [List.map_cons, ← blsOf_some h]
  | .non :: _, _, h => by cases h
  | .int _ :: _, _, h => by cases h
  | .str _ :: _, _, h => by cases h
  | .tup _ :: _, _, h => by cases h
  | .lst _ :: _, _, h => by cases h
  | .dK _ _ :: _, _, h => by cases h
  | .dT _ _ :: _, _, h => by cases h
  | .bag :: _, _, h => by cases h
theorem blsOf_map : ∀ ns : List Bool, blsOf (ns.map D.bl) = some ns
  | [] => rfl
  | i :: r => by simp [blsOf, blsOf_map r]
section
variable {X : Cx} {fr : Fr} {H : Hp} {F : Reg} {β : Option Addr}
theorem rs1 {d : D} {xs : List V} (h : Rs H F β [d] xs) : ∃ v, xs = [v] ∧ R H F β d v := by
  obtain ⟨v, r, rfl, h1, h2⟩ := h.uncons
  unfold Rs at h2
  subst h2
  exact ⟨v, rfl, h1⟩
theorem rs2 {d e : D} {xs : List V} (h : Rs H F β [d, e] xs) : ∃ v w, xs = [v, w] ∧ R H F β d v ∧ R H F β e w := by
  obtain ⟨v, r, rfl, h1, h2⟩ := h.uncons
  obtain ⟨w, rfl, h3⟩ := rs1 h2
  exact ⟨v, w, rfl, h1, h3⟩
def lenL : List D → Option D
  | [.tup xs] => some (.int xs.length)
  | [.lst xs] => some (.int xs.length)
  | [.str x] => if x.length ≤ line then some (.int x.length) else none
  | _ => none
theorem o_len : OpL X fr (.builtin "len") lenL := ⟨fun H F g xs ds d b rs e => by
  unfold lenL at e
  split at e
  · cases e
    obtain ⟨v, rfl, h⟩ := rs1 rs
    obtain ⟨a, vs, rfl, h1, q⟩ := r_tup h
    exact ⟨_, call_len, _, _, rfl, .inr ⟨vs, SqT.of h1, rfl⟩, by rw [← q.length]; exact hit_here b int_r⟩
  · cases e
    obtain ⟨v, rfl, h⟩ := rs1 rs
    obtain ⟨a, vs, rfl, f, h1, q⟩ := r_lst h
    exact ⟨_, call_len, _, _, rfl, .inl ⟨vs, SqL.of h1, rfl⟩, by rw [← q.length]; exact hit_here b int_r⟩
  · split at e
    · rename_i hl
      cases e
      obtain ⟨v, rfl, h⟩ := rs1 rs
      rw [r_str h]
      exact ⟨_, call_len, _, _, rfl, ⟨by rw [line_eq]; exact hl, rfl⟩, hit_here b int_r⟩
    · cases e
  · cases e⟩
def intL : List D → Option D
  | [.int i] => some (.int i)
  | [.bl k] => some (.int (if k then 1 else 0))
  | _ => none
theorem o_int : OpL X fr (.type "int") intL := ⟨fun H F g xs ds d b rs e => by
  unfold intL at e
  split at e
  · cases e
    obtain ⟨v, rfl, h⟩ := rs1 rs
    rw [r_int h]
    exact ⟨_, call_int1, .inl ⟨_, rfl, hit_here b int_r⟩⟩
  · cases e
    obtain ⟨v, rfl, h⟩ := rs1 rs
    rw [r_bl h]
    exact ⟨_, call_int1, .inr ⟨_, rfl, hit_here b int_r⟩⟩
  · cases e⟩
def boolL : List D → Option D
  | [.int i] => some (.bl (i != 0))
  | [.bl k] => some (.bl k)
  | _ => none
theorem o_bool : OpL X fr (.type "bool") boolL := ⟨fun H F g xs ds d b rs e => by
  unfold boolL at e
  split at e
  · cases e
    obtain ⟨v, rfl, h⟩ := rs1 rs
    rw [r_int h]
    exact ⟨_, call_bool1, .inl ⟨_, rfl, hit_here b bl_r⟩⟩
  · cases e
    obtain ⟨v, rfl, h⟩ := rs1 rs
    rw [r_bl h]
    exact ⟨_, call_bool1, .inr ⟨_, rfl, hit_here b bl_r⟩⟩
  · cases e⟩
def absL : List D → Option D
  | [.int i] => some (.int (if i < 0 then -i else i))
  | _ => none
theorem o_abs : OpL X fr (.builtin "abs") absL := ⟨fun H F g xs ds d b rs e => by
  unfold absL at e
  split at e
  · cases e
    obtain ⟨v, rfl, h⟩ := rs1 rs
    rw [r_int h]
    exact ⟨_, call_abs, _, rfl, hit_here b int_r⟩
  · cases e⟩
/-- the best of some ints -/
theorem foldl_max_mem : ∀ (ns : List Int) (n : Int), ns.foldl max n ∈ n :: ns ∧ ∀ y ∈ n :: ns, y ≤ ns.foldl max n
  | [], n => ⟨List.mem_singleton.mpr rfl, fun y hy => by rw [List.mem_singleton.mp hy]; exact Int.le_refl _⟩
  | k :: r, n => by
    obtain ⟨h1, h2⟩ := foldl_max_mem r (max n k)
    refine ⟨?_, fun y hy => ?_⟩
    · rw [List.foldl_cons]
      rcases List.mem_cons.mp h1 with e | h
      · rw [e]
        rcases Int.le_total n k with q | q
        · rw [Int.max_eq_right q]; exact List.mem_cons_of_mem _ List.mem_cons_self
        · rw [Int.max_eq_left q]; exact List.mem_cons_self
      · exact List.mem_cons_of_mem _ (List.mem_cons_of_mem _ h)
    · rw [List.foldl_cons]
      have hm := h2 (max n k) List.mem_cons_self
      rcases List.mem_cons.mp hy with e | hy
      · rw [e]; omega
      · rcases List.mem_cons.mp hy with e | hy
        · rw [e]; omega
        · exact h2 y (List.mem_cons_of_mem _ hy)
theorem foldl_max_uniq {ns : List Int} {n m : Int} (h1 : m ∈ n :: ns) (h2 : ∀ y ∈ n :: ns, y ≤ m) : m = ns.foldl max n := by
  obtain ⟨q1, q2⟩ := foldl_max_mem ns n
  have a := h2 _ q1
  have b := q2 _ h1
  omega
def maxL : List D → Option D
  | [.int i, .int j] => some (.int (max i j))
  | [.lst xs] => (intsOf xs).bind fun ns => match ns with
    | n :: r => some (.int (r.foldl max n))
    | [] => none
  | _ => none
theorem o_max (hc : X.calm = true) : OpL X fr (.builtin "max") maxL := ⟨fun H F g xs ds d b rs e => by
  unfold maxL at e
  split at e
  · rename_i i j
    cases e
    obtain ⟨v, w, rfl, h1, h2⟩ := rs2 rs
    rw [r_int h1, r_int h2]
    refine ⟨_, call_max2 hc, _, _, rfl, ?_⟩
    rw [show (if j > i then j else i) = max i j by split <;> omega]
    exact hit_here b int_r
  · rename_i xs
    obtain ⟨ns, h, e⟩ := Option.bind_eq_some_iff.mp e
    obtain ⟨v, rfl, h1⟩ := rs1 rs
    obtain ⟨a, vs, rfl, f, h1, q⟩ := r_lst h1
    cases ns with
    | nil => cases e
    | cons n r =>
      cases e
      rw [intsOf_some h] at q
      rw [rs_ints q] at h1
      exact ⟨_, cr_max hc, a, n :: r, rfl, SqL.of h1, Nat.zero_lt_succ _, fun m hm hle => by rw [foldl_max_uniq hm hle]; exact hit_here b int_r⟩
  · cases e⟩
def sumL : List D → Option D
  | [.lst xs] => (intsOf xs).map fun ns => .int ns.sum
  | _ => none
theorem o_sum (hc : X.calm = true) : OpL X fr (.builtin "sum") sumL := ⟨fun H F g xs ds d b rs e => by
  unfold sumL at e
  split at e
  · obtain ⟨ns, h, e⟩ := Option.map_eq_some_iff.mp e
    cases e
    obtain ⟨v, rfl, h1⟩ := rs1 rs
    obtain ⟨a, vs, rfl, f, h1, q⟩ := r_lst h1
    rw [intsOf_some h] at q
    rw [rs_ints q] at h1
    exact ⟨_, cr_sum hc, a, ns, rfl, SqL.of h1, hit_here b int_r⟩
  · cases e⟩
def allL : List D → Option D
  | [.lst xs] => (blsOf xs).map fun ns => .bl (ns.all id)
  | _ => none
def anyL : List D → Option D
  | [.lst xs] => (blsOf xs).map fun ns => .bl (ns.any id)
  | _ => none
theorem o_all (hc : X.calm = true) : OpL X fr (.builtin "all") allL := ⟨fun H F g xs ds d b rs e => by
  unfold allL at e
  split at e
  · obtain ⟨ns, h, e⟩ := Option.map_eq_some_iff.mp e
    cases e
    obtain ⟨v, rfl, h1⟩ := rs1 rs
    obtain ⟨a, vs, rfl, f, h1, q⟩ := r_lst h1
    rw [blsOf_some h] at q
    rw [rs_bls q] at h1
    exact ⟨_, cr_all hc, a, ns, rfl, SqL.of h1, hit_here b bl_r⟩
  · cases e⟩
theorem o_any (hc : X.calm = true) : OpL X fr (.builtin "any") anyL := ⟨fun H F g xs ds d b rs e => by
  unfold anyL at e
  split at e
  · obtain ⟨ns, h, e⟩ := Option.map_eq_some_iff.mp e
    cases e
    obtain ⟨v, rfl, h1⟩ := rs1 rs
    obtain ⟨a, vs, rfl, f, h1, q⟩ := r_lst h1
    rw [blsOf_some h] at q
    rw [rs_bls q] at h1
    exact ⟨_, cr_any hc, a, ns, rfl, SqL.of h1, hit_here b bl_r⟩
  · cases e⟩
def tupL : List D → Option D
  | [.lst xs] => some (.tup xs)
  | [.tup xs] => some (.tup xs)
  | _ => none
theorem o_tup : OpL X fr (.type "tuple") tupL := ⟨fun H F g xs ds d b rs e => by
  unfold tupL at e
  split at e
  · cases e
    obtain ⟨v, rfl, h1⟩ := rs1 rs
    obtain ⟨a, vs, rfl, f, h1, q⟩ := r_lst h1
    exact ⟨_, call_tuple_of, a, vs, rfl, .inl ⟨SqL.of h1, fun l hl => hit_tup b q hl⟩⟩
  · cases e
    obtain ⟨v, rfl, h1⟩ := rs1 rs
    obtain ⟨a, vs, rfl, h2, q⟩ := r_tup h1
    exact ⟨_, call_tuple_of, a, vs, rfl, .inr ⟨SqT.of h2, hit_here b h1⟩⟩
  · cases e⟩
def listL : List D → Option D
  | [.lst xs] => some (.lst xs)
  | [.tup xs] => some (.lst xs)
  | _ => none
theorem o_list : OpLN X fr (.type "list") listL := ⟨fun H F g xs ds d b rs e => by
  unfold listL at e
  split at e
  · cases e
    obtain ⟨v, rfl, h1⟩ := rs1 rs
    obtain ⟨a, vs, rfl, f, h1, q⟩ := r_lst h1
    exact ⟨_, call_list_of, a, vs, rfl, .inl (SqL.of h1), fun l hl => hitN_lst b q hl⟩
  · cases e
    obtain ⟨v, rfl, h1⟩ := rs1 rs
    obtain ⟨a, vs, rfl, h2, q⟩ := r_tup h1
    exact ⟨_, call_list_of, a, vs, rfl, .inr (SqT.of h2), fun l hl => hitN_lst b q hl⟩
  · cases e⟩

/-! ### isinstance -/
def tyN : D → String
  | .non => "NoneType"
  | .bl _ => "bool"
  | .int _ => "int"
  | .str _ => "str"
  | .tup _ => "tuple"
  | .lst _ => "list"
  | .dK _ _ => "dict"
  | .dT _ _ => "dict"
  | .bag => "list"
def isaB (T : String) (d : D) : Bool := tyN d == T || (tyN d == "bool" && T == "int")
def isTy (T : String) : Prop := T = "bool" ∨ T = "int" ∨ T = "str" ∨ T = "tuple" ∨ T = "list" ∨ T = "dict"
theorem kitB_of {T : String} (hT : isTy T) (d : D) : kitB (tyN d) T = some (isaB T d) := by
  have hd : tyN d = "NoneType" ∨ tyN d = "bool" ∨ tyN d = "int" ∨ tyN d = "str" ∨ tyN d = "tuple" ∨ tyN d = "list" ∨ tyN d = "dict" := by
    cases d <;> simp [tyN]
  unfold isaB
  rcases hT with rfl | rfl | rfl | rfl | rfl | rfl <;> rcases hd with e | e | e | e | e | e | e <;> rw [e] <;> decide +kernel
theorem tyX_of {K : PySem.W.Frag} {g : Bag} {d : D} {v : V} (b : BagOk β F H g) (h : R H F β d v) (nd : ∀ ks xs, d ≠ .dT ks xs) : TyX K H v (.type (tyN d)) := by
  cases d with
  | non => rw [r_non h]; exact .base .non
  | bl x => rw [r_bl h]; exact .base (.bl x)
  | int x => rw [r_int h]; exact .base (.int x)
  | str x => rw [r_str h]; exact .base (.str x)
  | tup xs => obtain ⟨a, vs, rfl, h2, q⟩ := r_tup h; exact .base (.tup h2)
  | lst xs => obtain ⟨a, vs, rfl, f, h2, q⟩ := r_lst h; exact .base (.lst h2)
  | dK ks xs =>
    obtain ⟨a, vs, rfl, f, h2, q⟩ := r_dK h
    rcases h2 with h2 | ⟨o, h2⟩
    · exact .base (.dK h2)
    · exact .fDict h2
  | dT ks xs => exact absurd rfl (nd ks xs)
  | bag => obtain ⟨a, hb, rfl⟩ := r_bag h; exact .base (.lst (b.at_ a hb).2)
def isaD (T : String) (d : D) : Option D := match d with
  | .dT _ _ => none
  | d => some (.bl (isaB T d))
def isaE (T : String) (ρ : EX) : EX := un1 (isaD T) ρ
variable {e : Expr} {ρ : EX} {pos p p2 : Pos}
theorem ev_isa {T : String} (hT : isTy T) (hg : Gl X "isinstance") (hm : X.mg "isinstance" = none) (he : EV X fr e ρ) (ht : PE X e2 (tC (.ty T)))
    (h1 : starEach [e, e2] X.env = (false, eval e X.env) :: starEach [e2] X.env := by rfl) (h2 : starEach [e2] X.env = (false, eval e2 X.env) :: starEach [] X.env := by rfl)
    (hpl : (backTo pos (starEach [e2] X.env)).any (·.1) = false := by rfl) : EV X fr (.Call (.Name "isinstance" p) [e, e2] [] pos) (isaE T ρ) := by
  refine ⟨fun pins s σ H Q I ⟨env, F, g, r, hgt⟩ => ?_⟩
  refine wpAny_Call_Name_kw (ld_blt (u := .builtin "isinstance") I hg hm rfl ?_ (by decide) (by decide))
  refine PyProof.Rows.callWith_builtin1 ?_ h1 hpl
  have key : tCons (tE fr ρ) (tCons (tC (.ty T)) tNil) σ H fun vs H1 => ∃ x t b, vs = [x, .ty T] ∧ TyX X.K H1 x (.type t) ∧ kitB t T = some b ∧ Q (.bl b) H1 := by
    refine got_seq r hgt fun d g' H' F' v ho ex er q hq => ?_
    obtain ⟨d2, hd, hq⟩ := ofO_got hq
    unfold isaD at hd
    split at hd
    · cases hd
    · rename_i nd
      cases hd
      exact ⟨v, tyN d, _, rfl, tyX_of er.bag q nd, kitB_of hT d, got_hit hq (hit_here er.bag bl_r)⟩
  refine thn (PA.run (pa_cons he (pa_cons ht pa_nil h2) h1) pos pins s σ H _ I key) fun us s1 ⟨vs, H1, I1, rv, x, t, b, ev, ty, kb, q⟩ => ?_
  subst ev
  exact call_isi pins s1 σ H1 _ us _ I1 rv ⟨x, .ty T, .type t, .type T, b, rfl, .ty T, ty, kit_ty kb, q⟩
end
end VS

/-! VS14: sorted, min. -/
namespace VS
open PySem PySem.Spec L2 RZ
open PyProof.Rows hiding St

/-- the lists of pairs -/
theorem Rs.ofPairs {H : Hp} {F : Reg} {β : Option Addr} : ∀ {l : List (D × V)}, (∀ p ∈ l, R H F β p.1 p.2) → Rs H F β (l.map (·.1)) (l.map (·.2))
  | [], _ => .nil
  | p :: l, h => .cons (h p List.mem_cons_self) (Rs.ofPairs fun q hq => h q (List.mem_cons_of_mem _ hq))
theorem Rs.pairs {H : Hp} {F : Reg} {β : Option Addr} : ∀ {ds : List D} {vs : List V}, Rs H F β ds vs → ∃ l : List (D × V), ds = l.map (·.1) ∧ vs = l.map (·.2) ∧ ∀ p ∈ l, R H F β p.1 p.2
  | [], vs, h => by unfold Rs at h; subst h; exact ⟨[], rfl, rfl, fun _ z => nomatch z⟩
  | d :: ds, vs, h => by
    obtain ⟨v, r, rfl, h1, h2⟩ := h.uncons
    obtain ⟨l, rfl, rfl, hl⟩ := h2.pairs
    exact ⟨(d, v) :: l, rfl, rfl, fun p hp => by
      rcases List.mem_cons.mp hp with rfl | hp
      · exact h1
      · exact hl p hp⟩
abbrev keyP (p : D × V) : PyData := toPy p.1
theorem alike_symm_all (xs : List PyData) : True := trivial
def alikeB (ds : List PyData) : Bool := ds.all fun d => ds.all fun e => PySem.W.alike d e
theorem alikeB_of {ds : List PyData} (h : alikeB ds = true) : PySem.W.AllAlike ds := fun d hd e he => List.all_eq_true.mp (List.all_eq_true.mp h d hd) e he
def tupNE : PyData → Bool
  | .tuple (_ :: _) => true
  | _ => false
def notNT : PyData → Bool
  | .none => false
  | .tuple _ => false
  | _ => true
def sortableB (ds : List PyData) : Bool := ds.all tupNE || ds.all notNT
theorem sortableB_of {ds : List PyData} (h : sortableB ds = true) : PySem.W.Sortable ds := by
  rcases Bool.or_eq_true _ _ ▸ h with h | h
  · refine .inl fun d hd => ?_
    have q := List.all_eq_true.mp h d hd
    cases d with
    | tuple xs => cases xs with
      | nil => cases q
      | cons x r => exact ⟨x, r, rfl⟩
    | _ => cases q
  · refine .inr fun d hd => ?_
    have q := List.all_eq_true.mp h d hd
    cases d with
    | none => cases q
    | tuple xs => cases q
    | _ => exact ⟨(fun z => by cases z), (fun _ z => by cases z)⟩
def shallowB (ds : List PyData) : Bool := ds.all fun d => d.plain && decide (d.depth ≤ 60)
def sortOk (xs : List D) : Prop := alikeB (xs.map toPy) = true ∧ sortableB (xs.map toPy) = true ∧ shallowB (xs.map toPy) = true ∧ xs.length ≤ line
instance (xs : List D) : Decidable (sortOk xs) := by unfold sortOk; infer_instance
noncomputable def sortD (xs : List D) : List D := xs.mergeSort (PySem.W.dataLe false toPy)
theorem vals_pairs : ∀ {l : List (D × V)} {us : List Value}, Vals (l.map (·.2)) us → PySem.W.EachIs (fun u (p : D × V) => RelV p.2 u) us l
  | [], us, h => by cases h; exact .nil
  | p :: l, us, h => by
    cases h with
    | cons r t => exact .cons r (vals_pairs t)
theorem pairs_vals : ∀ {l : List (D × V)} {us : List Value}, PySem.W.EachIs (fun u (p : D × V) => RelV p.2 u) us l → Vals (l.map (·.2)) us
  | [], us, h => by cases h; exact .nil
  | p :: l, us, h => by
    cases h with
    | cons r t => exact .cons r (pairs_vals t)
section
variable {X : Cx} {fr : Fr} {H : Hp} {F : Reg} {β : Option Addr}
theorem each_reads {pins : List (Addr × Obj)} {s : Shared} {σ : St} {H : Hp} (I : Inv X pins σ H s) : ∀ {l : List (D × V)} {us : List Value}, (∀ p ∈ l, Dp X.K H p.2 (toPy p.1)) → Vals (l.map (·.2)) us → PySem.W.EachIs (fun u (p : D × V) => ∃ as, Reads s.heap u (toPy p.1) as) us l
  | [], us, _, h => by cases h; exact .nil
  | p :: l, us, hd, h => by
    cases h with
    | cons r t => exact .cons (Dp.reads I _ _ _ (hd p List.mem_cons_self) r) (each_reads I (fun q hq => hd q (List.mem_cons_of_mem _ hq)) t)
def rSortedD (K : PySem.W.Frag) : List V → Hp → VK → Prop := fun vs H Q => ∃ (a : Addr) (ps : List (D × V)), vs = [V.ref a] ∧ SqL K H a (ps.map (·.2)) ∧ (∀ p ∈ ps, Dp K H p.2 (toPy p.1)) ∧ sortOk (ps.map (·.1)) ∧
  ∀ p, H p = none → Q (.ref p) (upd H p (.lst ((ps.mergeSort (PySem.W.dataLe false keyP)).map (·.2))))
theorem cr_sortedD (hu : X.A.units + 64 < cLine) : CallR X (.builtin "sorted") (rSortedD X.K) := by
  intro pins s σ H vs us Q I r h
  obtain ⟨a, ps, rfl, hs, hd, ok, q⟩ := h
  obtain ⟨its, rv, hl, hz⟩ := I.list hs
  rw [Vals.ref1 r]
  have em : ps.map keyP = (ps.map (·.1)).map toPy := by rw [List.map_map]; rfl
  refine PySem.W.sorted_data (bs := ps) (enc := keyP) (R := fun u p => RelV p.2 u) hl.isList (vals_pairs rv) (each_reads I hd rv) (by rw [em]; exact alikeB_of ok.1) (by rw [em]; exact sortableB_of ok.2.1) (by rw [List.length_map] at hz; exact hz) (fun p hp => ?_) fun out ho eo => ?_
  · have h1 := List.all_eq_true.mp ok.2.2.1 (toPy p.1) (by rw [← em]; exact List.mem_map.mpr ⟨p, hp, rfl⟩)
    simp only [Bool.and_eq_true, decide_eq_true_eq] at h1
    have := h1.2
    show X.A.units + 2 + (toPy p.1).depth < cLine
    omega
  · obtain ⟨n, hn⟩ := PyProof.Rows.sortedAll_at s.heap its out.toArray
    refine ⟨.ref (s.heap.objs.size + 1), _, I.laid (o := .lst ((ps.mergeSort (PySem.W.dataLe false keyP)).map (·.2))) (t' := s.toks) (fun b o e => PyProof.Rows.sortedAll_old e) (Nat.le_succ _) ⟨?_, out, n, pairs_vals eo, hn⟩, rfl, q _ (I.hok.fresh (Nat.le_succ _))⟩
    rw [List.length_map, (List.mergeSort_perm _ _).length_eq]
    rw [List.length_map] at hz
    exact hz
theorem Rs.dpPairs {K : PySem.W.Frag} {l : List (D × V)} (h : ∀ p ∈ l, R H F β p.1 p.2) (hs : shallowB ((l.map (·.1)).map toPy) = true) : ∀ p ∈ l, Dp K H p.2 (toPy p.1) := fun p hp => by
  have h1 := List.all_eq_true.mp hs (toPy p.1) (List.mem_map.mpr ⟨p.1, List.mem_map.mpr ⟨p, hp, rfl⟩, rfl⟩)
  simp only [Bool.and_eq_true, decide_eq_true_eq] at h1
  exact R.dp _ _ h1.1 (h p hp)
theorem sortD_pairs (l : List (D × V)) : (l.mergeSort (PySem.W.dataLe false keyP)).map (·.1) = sortD (l.map (·.1)) := List.map_mergeSort fun _ _ _ _ => rfl
def keyInts : List Key → Option (List Int)
  | [] => some []
  | .inl i :: r => (keyInts r).map (i :: ·)
  | .inr _ :: _ => none
theorem keyInts_some : ∀ {ks : List Key} {ns : List Int}, keyInts ks = some ns → ks = ns.map Sum.inl
  | [], ns, h => by cases h; rfl
  | .inl i :: r, ns, h => by
    simp only [keyInts, Option.map_eq_some_iff] at h
    obtain ⟨m, h, rfl⟩ := h
    rw [List.map_cons, ← keyInts_some h]
  | .inr _ :: _, _, h => by cases h
def sortI (ns : List Int) : List Int := ns.mergeSort (fun a b => decide (a ≤ b))
theorem sortI_perm (ns : List Int) : (sortI ns).Perm ns := List.mergeSort_perm _ _
theorem sortI_pw (ns : List Int) : (sortI ns).Pairwise (· ≤ ·) := by
  have h := List.pairwise_mergeSort (le := fun a b : Int => decide (a ≤ b)) (fun a b c h1 h2 => by simp only [decide_eq_true_eq] at *; omega) (fun a b => by simp only [Bool.or_eq_true, decide_eq_true_eq]; omega) ns
  exact h.imp fun h => by simpa using h
theorem sortI_uniq {ns ms : List Int} (p : ms.Perm ns) (h : ms.Pairwise (· ≤ ·)) : ms = sortI ns :=
  List.Perm.eq_of_pairwise (le := (· ≤ ·)) (fun a b _ _ h1 h2 => Int.le_antisymm h1 h2) h (sortI_pw ns) (p.trans (sortI_perm ns).symm)
noncomputable def sortL : List D → Option D
  | [.lst xs] => if sortOk xs then some (.lst (sortD xs)) else none
  | [.dK ks _] => (keyInts ks).bind fun ns => if ns.length < 64 then some (.lst ((sortI ns).map D.int)) else none
  | _ => none
theorem ints_rs : ∀ ns : List Int, Rs H F β (ns.map D.int) (ns.map V.int)
  | [] => .nil
  | n :: r => .cons int_r (ints_rs r)
theorem o_sorted (hc : X.calm = true) (hu : X.A.units + 64 < cLine) : OpLN X fr (.builtin "sorted") sortL := ⟨fun H F g xs ds d b rs e => by
  unfold sortL at e
  split at e
  · rename_i xs2
    split at e
    · rename_i ok
      cases e
      obtain ⟨v, rfl, h1⟩ := rs1 rs
      obtain ⟨a, vs, rfl, f, h1, q⟩ := r_lst h1
      obtain ⟨l, rfl, rfl, hl⟩ := q.pairs
      refine ⟨_, cr_sortedD hu, a, l, rfl, SqL.of h1, Rs.dpPairs hl ok.2.2.1, ok, fun p hp => ?_⟩
      rw [← sortD_pairs]
      exact hitN_lst b (Rs.ofPairs fun p hp => hl p ((List.mergeSort_perm _ _).mem_iff.mp hp)) hp
    · cases e
  · rename_i ks ys
    obtain ⟨ns, hk, e⟩ := Option.bind_eq_some_iff.mp e
    split at e
    · rename_i hl
      cases e
      obtain ⟨v, rfl, h1⟩ := rs1 rs
      obtain ⟨a, kv, rfl, f, h1, ek, q⟩ := r_dK h1
      exact ⟨_, call_sortedDI hc, a, kv, ns, rfl, h1, by rw [← ek]; exact keyInts_some hk, hl, fun zs p hp pw hn => by rw [sortI_uniq hp pw]; exact hitN_lst b (ints_rs _) hn⟩
    · cases e
  · cases e⟩

/-! ### min -/
mutual
theorem toPy_inj : ∀ (d e : D), (toPy d).plain = true → toPy d = toPy e → d = e
  | .non, e, _, h => by cases e <;> first | rfl | cases h
  | .bl b, e, _, h => by cases e <;> first | (cases h; rfl) | cases h
  | .int b, e, _, h => by cases e <;> first | (cases h; rfl) | cases h
  | .str b, e, _, h => by cases e <;> first | (cases h; rfl) | cases h
  | .tup xs, e, p, h => by
    cases e with
    | tup ys => rw [toPys_inj xs ys p (by simpa [toPy] using h)]
    | _ => cases h
  | .lst xs, e, p, h => by
    cases e with
    | lst ys => rw [toPys_inj xs ys p (by simpa [toPy] using h)]
    | _ => cases h
  | .dK _ _, _, p, _ => by simp [toPy, PyData.plain] at p
  | .dT _ _, _, p, _ => by simp [toPy, PyData.plain] at p
  | .bag, _, p, _ => by simp [toPy, PyData.plain] at p
theorem toPys_inj : ∀ (d e : List D), PyData.plainAll (toPys d) = true → toPys d = toPys e → d = e
  | [], e, _, h => by cases e with
    | nil => rfl
    | cons y r => simp [toPys] at h
  | x :: r, e, p, h => by
    cases e with
    | nil => simp [toPys] at h
    | cons y s =>
      simp only [toPys, PyData.plainAll, Bool.and_eq_true, List.cons.injEq] at p h
      rw [toPy_inj x y p.1 h.1, toPys_inj r s p.2 h.2]
end
noncomputable def minOf (x : D) (xs : List D) : D := xs.foldl (fun a y => if PySem.W.dataLt (toPy y) (toPy a) then y else a) x
theorem minOf_toPy : ∀ (xs : List D) (x : D), toPy (minOf x xs) = PySem.W.minD (toPy x) (xs.map toPy)
  | [], x => rfl
  | y :: r, x => by
    show toPy (minOf (if PySem.W.dataLt (toPy y) (toPy x) then y else x) r) = PySem.W.minD (if PySem.W.dataLt (toPy y) (toPy x) then toPy y else toPy x) (r.map toPy)
    rw [minOf_toPy]
    split <;> rfl
theorem minOf_mem : ∀ (xs : List D) (x : D), minOf x xs ∈ x :: xs
  | [], x => List.mem_singleton.mpr rfl
  | y :: r, x => by
    show minOf (if PySem.W.dataLt (toPy y) (toPy x) then y else x) r ∈ _
    have := minOf_mem r (if PySem.W.dataLt (toPy y) (toPy x) then y else x)
    rcases List.mem_cons.mp this with e | h
    · rw [e]; split <;> simp
    · exact List.mem_cons_of_mem _ (List.mem_cons_of_mem _ h)
def notNone : PyData → Bool
  | .none => false
  | _ => true
def minOk (xs : List D) : Prop := alikeB (xs.map toPy) = true ∧ (xs.map toPy).all notNone = true ∧ PyData.plainAll (xs.map toPy) = true ∧ PyData.depthAll (xs.map toPy) ≤ 60
instance (xs : List D) : Decidable (minOk xs) := by unfold minOk; infer_instance
theorem alikeAll_of {ds : List PyData} (h : alikeB ds = true) (h2 : ds.all notNone = true) : PySem.W.AlikeAll ds := ⟨fun d hd e he => alikeB_of h d hd e he, fun d hd z => by
  have := List.all_eq_true.mp h2 d hd
  rw [z] at this
  cases this⟩
def rMinD (K : PySem.W.Frag) : List V → Hp → VK → Prop := fun vs H Q => ∃ (a : Addr) (p : D × V) (ps : List (D × V)), vs = [V.ref a] ∧ SqL K H a ((p :: ps).map (·.2)) ∧ (∀ q ∈ p :: ps, Dp K H q.2 (toPy q.1)) ∧ minOk ((p :: ps).map (·.1)) ∧
  ∀ q ∈ p :: ps, toPy q.1 = toPy (minOf p.1 (ps.map (·.1))) → Q q.2 H
theorem readsAll_of {h : Heap} : ∀ {l : List (D × V)} {us : List Value}, PySem.W.EachIs (fun u (p : D × V) => ∃ as, Reads h u (toPy p.1) as) us l → ∃ as, ReadsAll h us (l.map fun p => toPy p.1) as
  | [], us, h => by cases h; exact ⟨_, .nil⟩
  | p :: l, us, h => by
    cases h with
    | cons r t =>
      obtain ⟨as, r⟩ := r
      obtain ⟨bs, t⟩ := readsAll_of t
      exact ⟨_, .cons r t⟩
theorem vals_at : ∀ {l : List (D × V)} {us : List Value} {i : Nat} {u : Value}, Vals (l.map (·.2)) us → us[i]? = some u → ∃ p, l[i]? = some p ∧ RelV p.2 u
  | [], us, i, u, h, e => by cases h; simp at e
  | p :: l, us, 0, u, h, e => by
    cases h with
    | cons r t => simp at e; subst e; exact ⟨p, rfl, r⟩
  | p :: l, us, i + 1, u, h, e => by
    cases h with
    | cons r t => simpa using vals_at t (by simpa using e)
theorem cr_minD (hc : X.calm = true) (hu : X.A.units + 64 < cLine) : CallR X (.builtin "min") (rMinD X.K) := by
  intro pins s σ H vs us Q I r h
  obtain ⟨a, p, ps, rfl, hs, hd, ok, q⟩ := h
  obtain ⟨its, rv, hl, hz⟩ := I.list hs
  rw [Vals.ref1 r]
  have er := each_reads I hd rv
  obtain ⟨as, ra⟩ := readsAll_of er
  have em : (p :: ps).map (fun p => toPy p.1) = ((p :: ps).map (·.1)).map toPy := by rw [List.map_map]; rfl
  refine PySem.W.min_list_data (x := toPy p.1) (xs := ps.map fun p => toPy p.1) (I.ok.hd hc) hl.isList (by simpa using ra) (by
    have := alikeAll_of ok.1 ok.2.1
    rw [← em] at this
    exact this) (by
    have := ok.2.2.2
    rw [← em] at this
    have h2 : PyData.depthAll (toPy p.1 :: ps.map fun p => toPy p.1) ≤ 60 := this
    omega) fun i v h' tk bs hv rd hk => ?_
  have hv' : its[i]? = some v := by simpa using hv
  obtain ⟨z, hz1, hz2⟩ := vals_at rv hv'
  have hm : z ∈ p :: ps := List.mem_of_getElem? hz1
  obtain ⟨cs, rz⟩ := Dp.reads (I.kept (t' := tk) hk) _ _ _ (hd z hm) hz2
  have e1 : PySem.W.minD (toPy p.1) (ps.map fun p => toPy p.1) = toPy (minOf p.1 (ps.map (·.1))) := by
    rw [minOf_toPy, List.map_map]; rfl
  rw [e1] at rd
  have al : PySem.W.alike (toPy z.1) (toPy (minOf p.1 (ps.map (·.1)))) = true := alikeB_of ok.1 _ (List.mem_map.mpr ⟨z.1, List.mem_map.mpr ⟨z, hm, rfl⟩, rfl⟩) _ (List.mem_map.mpr ⟨_, by
    have := minOf_mem (ps.map (·.1)) p.1
    exact this, rfl⟩)
  exact ⟨z.2, H, I.kept (t' := tk) hk, hz2, q z hm (PySem.W.alike_unique _ _ _ _ _ al rz rd)⟩
noncomputable def minL : List D → Option D
  | [.int i, .int j] => some (.int (min i j))
  | [.lst (x :: xs)] => if minOk (x :: xs) then some (minOf x xs) else none
  | _ => none
theorem plainAll_mem : ∀ {ds : List PyData} {d : PyData}, PyData.plainAll ds = true → d ∈ ds → d.plain = true
  | x :: r, d, h, hm => by
    simp only [PyData.plainAll, Bool.and_eq_true] at h
    rcases List.mem_cons.mp hm with rfl | hm
    · exact h.1
    · exact plainAll_mem h.2 hm
theorem o_min (hc : X.calm = true) (hu : X.A.units + 64 < cLine) : OpL X fr (.builtin "min") minL := ⟨fun H F g xs ds d b rs e => by
  unfold minL at e
  split at e
  · rename_i i j
    cases e
    obtain ⟨v, w, rfl, h1, h2⟩ := rs2 rs
    rw [r_int h1, r_int h2]
    refine ⟨_, call_min2 hc, _, _, rfl, ?_⟩
    rw [show (if j < i then j else i) = min i j by split <;> omega]
    exact hit_here b int_r
  · rename_i x xs2
    split at e
    · rename_i ok
      cases e
      obtain ⟨v, rfl, h1⟩ := rs1 rs
      obtain ⟨a, vs, rfl, f, h3, q⟩ := r_lst h1
      obtain ⟨l, el, rfl, hl⟩ := q.pairs
      cases l with
      | nil => cases el
      | cons p ps =>
        simp only [List.map_cons, List.cons.injEq] at el
        obtain ⟨rfl, rfl⟩ := el
        have hp : ∀ z ∈ p :: ps, (toPy z.1).plain = true := fun z hz => plainAll_mem ok.2.2.1 (List.mem_map.mpr ⟨z.1, List.mem_map.mpr ⟨z, hz, rfl⟩, rfl⟩)
        refine ⟨_, cr_minD hc hu, a, p, ps, rfl, SqL.of h3, fun z hz => R.dp _ _ (hp z hz) (hl z hz), ok, fun z hz ez => ?_⟩
        rw [← toPy_inj _ _ (hp z hz) ez]
        exact hit_here b (hl z hz)
    · cases e
  · cases e⟩
def isBlD : D → D → Option D
  | .bl a, .bl b => some (.bl (a == b))
  | _, _ => none
def notBlD : D → D → Option D
  | .bl a, .bl b => some (.bl (!(a == b)))
  | _, _ => none
theorem o_isBl : Op2 X fr (compareOp .Is) isBlD := ⟨fun H F g x y d1 d2 d b r1 r2 e => by
  unfold isBlD at e
  split at e
  · cases e
    rw [r_bl r1, r_bl r2]
    exact ⟨_, op_isBl, _, _, rfl, rfl, by rw [show decide _ = (_ == _) from (Bool.beq_eq_decide_eq _ _).symm]; exact hit_here b bl_r⟩
  · cases e⟩
theorem o_notBl : Op2 X fr (compareOp .IsNot) notBlD := ⟨fun H F g x y d1 d2 d b r1 r2 e => by
  unfold notBlD at e
  split at e
  · cases e
    rw [r_bl r1, r_bl r2]
    exact ⟨_, op_notBl, _, _, rfl, rfl, by rw [show decide _ = (_ == _) from (Bool.beq_eq_decide_eq _ _).symm]; exact hit_here b bl_r⟩
  · cases e⟩

end
end VS

/-! VS15: dicts read, made, written; in. -/
namespace VS
open PySem PySem.Spec L2 RZ
open PyProof.Rows hiding St

def keyD : D → Option Key
  | .int i => some (.inl i)
  | .str x => some (.inr x)
  | _ => none
theorem keyD_some {H : Hp} {F : Reg} {β : Option Addr} {d : D} {k : Key} {v : V} (h : keyD d = some k) (q : R H F β d v) : v = kV k ∧ d = kD k := by
  cases d with
  | int i => cases h; exact ⟨r_int q, rfl⟩
  | str i => cases h; exact ⟨r_str q, rfl⟩
  | _ => cases h
def keysL : List D → Option (List Key)
  | [] => some []
  | d :: r => (keyD d).bind fun k => (keysL r).map fun ks => k :: ks
theorem keysL_some {H : Hp} {F : Reg} {β : Option Addr} : ∀ {ds : List D} {ks : List Key} {vs : List V}, keysL ds = some ks → Rs H F β ds vs → vs = ks.map kV ∧ ds = ks.map kD
  | [], ks, vs, h, q => by
    cases h
    unfold Rs at q
    subst q
    exact ⟨rfl, rfl⟩
  | d :: r, ks, vs, h, q => by
    obtain ⟨k, hk, h⟩ := Option.bind_eq_some_iff.mp h
    obtain ⟨ks2, hk2, rfl⟩ := Option.map_eq_some_iff.mp h
    obtain ⟨v, r2, rfl, h1, h2⟩ := q.uncons
    obtain ⟨rfl, rfl⟩ := keyD_some hk h1
    obtain ⟨rfl, rfl⟩ := keysL_some hk2 h2
    exact ⟨rfl, rfl⟩
def keyT : D → Option (List Key)
  | .tup xs => keysL xs
  | _ => none
theorem keyT_some {H : Hp} {F : Reg} {β : Option Addr} {d : D} {k : List Key} {v : V} (h : keyT d = some k) (q : R H F β d v) : ∃ b, v = .ref b ∧ H b = some (.tup (k.map kV)) ∧ d = tD k := by
  cases d with
  | tup xs =>
    obtain ⟨a, vs, rfl, h1, q⟩ := r_tup q
    obtain ⟨rfl, rfl⟩ := keysL_some h q
    exact ⟨a, rfl, h1, rfl⟩
  | _ => cases h
section
variable {κ : Type} [DecidableEq κ]
def valX : List κ → List D → κ → Option D
  | k' :: ks, x :: xs, k => if k' = k then some x else valX ks xs k
  | _, _, _ => none
def hasX (ks : List κ) (k : κ) : Bool := ks.any fun j => decide (j = k)
def putXs : List κ → List D → κ → D → List D
  | k' :: ks, x :: xs, k, d => (if k' = k then d else x) :: putXs ks xs k d
  | _, xs, _, _ => xs
def putX (ks : List κ) (xs : List D) (k : κ) (d : D) : List κ × List D := if hasX ks k = true then (ks, putXs ks xs k d) else (ks ++ [k], xs ++ [d])
theorem valX_rel {H : Hp} {F : Reg} {β : Option Addr} {k : κ} : ∀ {kv : List (κ × V)} {xs : List D}, Rs H F β xs (kv.map (·.2)) → match valX (kv.map (·.1)) xs k with
    | some d => ∃ v, valV kv k = some v ∧ R H F β d v
    | none => valV kv k = none
  | [], [], _ => rfl
  | [], _ :: _, h => by unfold Rs at h; obtain ⟨_, _, e, _⟩ := h; cases e
  | p :: kv, [], h => by unfold Rs at h; cases h
  | p :: kv, x :: xs, h => by
    obtain ⟨v, r, e, h1, h2⟩ := h.uncons
    simp only [List.map_cons, List.cons.injEq] at e
    obtain ⟨rfl, rfl⟩ := e
    have ih := valX_rel (k := k) h2
    simp only [List.map_cons, valX]
    by_cases z : p.1 = k
    · rw [if_pos z]
      exact ⟨p.2, valV_pos z, h1⟩
    · rw [if_neg z]
      rw [valV_neg z]
      exact ih
theorem valX_some {H : Hp} {F : Reg} {β : Option Addr} {k : κ} {kv : List (κ × V)} {xs : List D} {d : D} (h : Rs H F β xs (kv.map (·.2))) (e : valX (kv.map (·.1)) xs k = some d) : ∃ v, valV kv k = some v ∧ R H F β d v := by
  have := valX_rel (k := k) h
  rw [e] at this
  exact this
theorem valX_isSome {H : Hp} {F : Reg} {β : Option Addr} {k : κ} {kv : List (κ × V)} {xs : List D} (h : Rs H F β xs (kv.map (·.2))) : (valV kv k).isSome = (valX (kv.map (·.1)) xs k).isSome := by
  have := valX_rel (k := k) h
  split at this
  · obtain ⟨v, e, _⟩ := this
    rw [e] <;> simp [*]
  · rw [this] <;> simp [*]
theorem hasX_any {kv : List (κ × V)} {k : κ} : hasX (kv.map (·.1)) k = kv.any fun p => decide (p.1 = k) := by
  unfold hasX
  rw [List.any_map]
  rfl
theorem putXs_rs {H : Hp} {F : Reg} {β : Option Addr} {k : κ} {d : D} {v : V} (q : R H F β d v) : ∀ {kv : List (κ × V)} {xs : List D}, Rs H F β xs (kv.map (·.2)) → Rs H F β (putXs (kv.map (·.1)) xs k d) ((kv.map fun p => if p.1 = k then (p.1, v) else p).map (·.2))
  | [], xs, h => h
  | p :: kv, [], h => by unfold Rs at h; cases h
  | p :: kv, x :: xs, h => by
    obtain ⟨v', r, e, h1, h2⟩ := h.uncons
    simp only [List.map_cons, List.cons.injEq] at e
    obtain ⟨rfl, rfl⟩ := e
    simp only [List.map_cons, putXs]
    refine .cons ?_ (putXs_rs q h2)
    by_cases z : p.1 = k
    · rw [if_pos z, if_pos z]; exact q
    · rw [if_neg z, if_neg z]; exact h1
theorem putX_rel {H : Hp} {F : Reg} {β : Option Addr} {k : κ} {d : D} {v : V} {kv : List (κ × V)} {xs : List D} (h : Rs H F β xs (kv.map (·.2))) (q : R H F β d v) : (putX (kv.map (·.1)) xs k d).1 = (putK kv k v).map (·.1) ∧ Rs H F β (putX (kv.map (·.1)) xs k d).2 ((putK kv k v).map (·.2)) := by
  unfold putX putK
  rw [hasX_any]
  split
  · refine ⟨?_, putXs_rs q h⟩
    show kv.map (·.1) = _
    rw [List.map_map]
    refine List.map_congr_left fun p _ => ?_
    show p.1 = (if p.1 = k then (p.1, v) else p).1
    split <;> rfl
  · refine ⟨by simp, ?_⟩
    rw [List.map_append]
    exact h.append (.one q)
end
/-! ### d[k], k in d -/
def getD : D → D → Option D
  | .dK ks xs, k => (keyD k).bind fun k => valX ks xs k
  | .dT ks xs, k => (keyT k).bind fun k => valX ks xs k
  | _, _ => none
def hasD : D → D → Option Bool
  | .dK ks xs, k => (keyD k).map fun k => (valX ks xs k).isSome
  | .dT ks xs, k => (keyT k).map fun k => (valX ks xs k).isSome
  | _, _ => none
section
variable {X : Cx} {fr : Fr} {H : Hp} {F : Reg} {β : Option Addr} {o i : Expr} {ρ κ : EX} {pos : Pos}
theorem getD_some {d k x : D} {v w : V} (r : R H F β d v) (q : R H F β k w) (h : getD d k = some x) : ∃ a u, v = .ref a ∧ DGet H a w (some u) ∧ R H F β x u := by
  cases d with
  | dK ks xs =>
    obtain ⟨z, hz, h⟩ := Option.bind_eq_some_iff.mp h
    obtain ⟨a, kv, rfl, f, h1, rfl, rr⟩ := r_dK r
    obtain ⟨u, hu, ru⟩ := valX_some rr h
    exact ⟨a, u, rfl, .inl ⟨kv, z, h1, (keyD_some hz q).1, hu.symm⟩, ru⟩
  | dT ks xs =>
    obtain ⟨z, hz, h⟩ := Option.bind_eq_some_iff.mp h
    obtain ⟨a, kv, rfl, f, h1, rfl, rr⟩ := r_dT r
    obtain ⟨u, hu, ru⟩ := valX_some rr h
    obtain ⟨b, rfl, hb, _⟩ := keyT_some hz q
    exact ⟨a, u, rfl, .inr ⟨kv, z, b, h1, rfl, hb, hu.symm⟩, ru⟩
  | _ => cases h
theorem hasD_some {d k : D} {x : Bool} {v w : V} (r : R H F β d v) (q : R H F β k w) (h : hasD d k = some x) : ∃ a u, v = .ref a ∧ DGet H a w u ∧ u.isSome = x := by
  cases d with
  | dK ks xs =>
    obtain ⟨z, hz, rfl⟩ := Option.map_eq_some_iff.mp h
    obtain ⟨a, kv, rfl, f, h1, rfl, rr⟩ := r_dK r
    exact ⟨a, _, rfl, .inl ⟨kv, z, h1, (keyD_some hz q).1, rfl⟩, valX_isSome rr⟩
  | dT ks xs =>
    obtain ⟨z, hz, rfl⟩ := Option.map_eq_some_iff.mp h
    obtain ⟨a, kv, rfl, f, h1, rfl, rr⟩ := r_dT r
    obtain ⟨b, rfl, hb, _⟩ := keyT_some hz q
    exact ⟨a, _, rfl, .inr ⟨kv, z, b, h1, rfl, hb, rfl⟩, valX_isSome rr⟩
  | _ => cases h
theorem ev_dget (hu : X.A.units + 64 < cLine) (ho : EV X fr o ρ) (hi : EV X fr i κ) (hs : NoSl i := by intro _ _; rfl) : EV X fr (.Subscript o i pos) (bin2 getD ρ κ) := by
  refine ev_of _ _ _ (pe_dget (by omega) ho hi hs) fun σ H Q env F g r hg => ?_
  refine got_seq r hg fun d g1 H1 F1 v hoo ex er q hq => got_seq er hq fun k g2 H2 F2 w hoo2 ex2 er2 q2 hq2 => ?_
  obtain ⟨x, hx, hq3⟩ := ofO_got hq2
  obtain ⟨a, u, rfl, dg, ru⟩ := getD_some (q.ext er.bag ex2) q2 hx
  exact ⟨a, u, rfl, dg, got_hit hq3 (hit_here er2.bag ru)⟩
def inVD (k d : D) : Option D := (hasD d k).map .bl
def notInVD (k d : D) : Option D := (hasD d k).map fun b => .bl (!b)
theorem ev_din (hu : X.A.units + 64 < cLine) (hi : EV X fr i κ) (ho : EV X fr o ρ) (hm : behindInMarks .In o = false := by rfl) : EV X fr (.Compare i [.In] [o] pos) (bin2 inVD κ ρ) := by
  refine ev_of _ _ _ (pe_cmp (pc_din (by omega) hi ho) hm) fun σ H Q env F g r hg => ?_
  refine got_seq r hg fun d g1 H1 F1 v hoo ex er q hq => got_seq er hq fun k g2 H2 F2 w hoo2 ex2 er2 q2 hq2 => ?_
  obtain ⟨x, hx, hq3⟩ := ofO_got hq2
  obtain ⟨b, hb, rfl⟩ := Option.map_eq_some_iff.mp hx
  obtain ⟨a, u, rfl, dg, eb⟩ := hasD_some q2 (q.ext er.bag ex2) hb
  exact ⟨a, u, rfl, dg, by rw [eb]; exact got_hit hq3 (hit_here er2.bag bl_r)⟩
theorem ev_dnotin (hu : X.A.units + 64 < cLine) (hi : EV X fr i κ) (ho : EV X fr o ρ) (hm : behindInMarks .NotIn o = false := by rfl) : EV X fr (.Compare i [.NotIn] [o] pos) (bin2 notInVD κ ρ) := by
  refine ev_of _ _ _ (pe_cmp (pc_dnotin (by omega) hi ho) hm) fun σ H Q env F g r hg => ?_
  refine got_seq r hg fun d g1 H1 F1 v hoo ex er q hq => got_seq er hq fun k g2 H2 F2 w hoo2 ex2 er2 q2 hq2 => ?_
  obtain ⟨x, hx, hq3⟩ := ofO_got hq2
  obtain ⟨b, hb, rfl⟩ := Option.map_eq_some_iff.mp hx
  obtain ⟨a, u, rfl, dg, eb⟩ := hasD_some q2 (q.ext er.bag ex2) hb
  exact ⟨a, u, rfl, dg, by rw [eb]; exact got_hit hq3 (hit_here er2.bag bl_r)⟩
/-! ### x in a list or a tuple -/
def inSD (k d : D) : Option D := match itemsD d with
  | some xs => if (toPy k).plain = true ∧ (toPy k).depth ≤ 60 ∧ PyData.plainAll (toPys xs) = true then some (.bl ((toPys xs).any fun y => PyData.eqv y (toPy k))) else none
  | none => none
def notInSD (k d : D) : Option D := match itemsD d with
  | some xs => if (toPy k).plain = true ∧ (toPy k).depth ≤ 60 ∧ PyData.plainAll (toPys xs) = true then some (.bl (!(toPys xs).any fun y => PyData.eqv y (toPy k))) else none
  | none => none
def rInP (K : PySem.W.Frag) (neg : Bool) : R2 := fun x y H Q => ∃ d ds, Dp K H x d ∧ (Dp K H y (.list ds) ∨ Dp K H y (.tuple ds)) ∧ d.plain = true ∧ d.depth ≤ 60 ∧ PyData.plainAll ds = true ∧ Q (.bl (if neg = true then !ds.any (fun z => PyData.eqv z d) else ds.any (fun z => PyData.eqv z d))) H
theorem op_inP (hu : X.A.units + 64 < cLine) : OpR X (compareOp .In) (rInP X.K false) := by
  intro pins s σ H x y v u Q I rx ry h
  obtain ⟨d, ds, hd, he, sd, sz, se, q⟩ := h
  obtain ⟨as, r1⟩ := Dp.reads I d x v hd rx
  rcases he with he | he
  · obtain ⟨bs, r2⟩ := Dp.reads I (.list ds) y u he ry
    exact PySem.SeqAt.in_list_data r2 r1 se sd (by omega) ⟨.bl _, H, I, rfl, q⟩
  · obtain ⟨bs, r2⟩ := Dp.reads I (.tuple ds) y u he ry
    exact PySem.SeqAt.in_tuple_data r2 r1 se sd (by omega) ⟨.bl _, H, I, rfl, q⟩
theorem op_notInP (hu : X.A.units + 64 < cLine) : OpR X (compareOp .NotIn) (rInP X.K true) := by
  intro pins s σ H x y v u Q I rx ry h
  obtain ⟨d, ds, hd, he, sd, sz, se, q⟩ := h
  obtain ⟨as, r1⟩ := Dp.reads I d x v hd rx
  rcases he with he | he
  · obtain ⟨bs, r2⟩ := Dp.reads I (.list ds) y u he ry
    exact PySem.SeqAt.notIn_list_data r2 r1 se sd (by omega) ⟨.bl _, H, I, rfl, q⟩
  · obtain ⟨bs, r2⟩ := Dp.reads I (.tuple ds) y u he ry
    exact PySem.SeqAt.notIn_tuple_data r2 r1 se sd (by omega) ⟨.bl _, H, I, rfl, q⟩
theorem items_dp {K : PySem.W.Frag} {d : D} {xs : List D} {v : V} (h : itemsD d = some xs) (p : PyData.plainAll (toPys xs) = true) (q : R H F β d v) : Dp K H v (.list (toPys xs)) ∨ Dp K H v (.tuple (toPys xs)) := by
  cases d with
  | lst ys =>
    cases h
    obtain ⟨a, vs, rfl, f, h1, q⟩ := r_lst q
    exact .inl (.lst (SqL.of h1) (Rs.dp _ _ p q))
  | tup ys =>
    cases h
    obtain ⟨a, vs, rfl, h1, q⟩ := r_tup q
    exact .inr (.tup (SqT.of h1) (Rs.dp _ _ p q))
  | _ => cases h
theorem o_in (hu : X.A.units + 64 < cLine) : Op2 X fr (compareOp .In) inSD := ⟨fun H F g x y d1 d2 d b r1 r2 e => by
  unfold inSD at e
  split at e
  · rename_i xs hx
    split at e
    · rename_i hl
      cases e
      exact ⟨_, op_inP hu, _, _, R.dp _ _ hl.1 r1, items_dp hx hl.2.2 r2, hl.1, hl.2.1, hl.2.2, hit_here b bl_r⟩
    · cases e
  · cases e⟩
theorem o_notIn (hu : X.A.units + 64 < cLine) : Op2 X fr (compareOp .NotIn) notInSD := ⟨fun H F g x y d1 d2 d b r1 r2 e => by
  unfold notInSD at e
  split at e
  · rename_i xs hx
    split at e
    · rename_i hl
      cases e
      exact ⟨_, op_notInP hu, _, _, R.dp _ _ hl.1 r1, items_dp hx hl.2.2 r2, hl.1, hl.2.1, hl.2.2, hit_here b bl_r⟩
    · cases e
  · cases e⟩
/-! ### dict(pairs) -/
def pairD : D → Option (Key × D)
  | .tup [k, x] => (keyD k).map fun k => (k, x)
  | _ => none
def pairsD : List D → Option (List (Key × D))
  | [] => some []
  | d :: r => (pairD d).bind fun p => (pairsD r).map fun ps => p :: ps
def mergeD : List (Key × D) → List Key × List D → List Key × List D
  | [], a => a
  | p :: r, a => mergeD r (putX a.1 a.2 p.1 p.2)
def dictL : List D → Option D
  | [.lst xs] => (pairsD xs).map fun ps => let a := mergeD ps ([], []); .dK a.1 a.2
  | _ => none
theorem pairsD_some : ∀ {ds : List D} {ps : List (Key × D)} {vs : List V}, pairsD ds = some ps → Rs H F β ds vs → ∃ (as : List Addr) (kvs : List (Key × V)), vs = as.map V.ref ∧ (∀ (K : PySem.W.Frag), Paired (fun p kv => SqT K H p [kV kv.1, kv.2]) as kvs) ∧ kvs.map (·.1) = ps.map (·.1) ∧ Rs H F β (ps.map (·.2)) (kvs.map (·.2))
  | [], ps, vs, h, q => by
    cases h
    unfold Rs at q
    subst q
    exact ⟨[], [], rfl, fun _ => .nil, rfl, .nil⟩
  | d :: r, ps, vs, h, q => by
    obtain ⟨p, hp, h⟩ := Option.bind_eq_some_iff.mp h
    obtain ⟨ps2, hp2, rfl⟩ := Option.map_eq_some_iff.mp h
    obtain ⟨v, r2, rfl, h1, h2⟩ := q.uncons
    obtain ⟨as, kvs, rfl, hP, ek, hr⟩ := pairsD_some hp2 h2
    unfold pairD at hp
    split at hp
    · rename_i k x
      obtain ⟨k', hk, rfl⟩ := Option.map_eq_some_iff.mp hp
      obtain ⟨a, ws, rfl, ha, hw⟩ := r_tup h1
      obtain ⟨w1, w2, rfl, q1, q2⟩ := rs2 hw
      obtain ⟨rfl, _⟩ := keyD_some hk q1
      exact ⟨a :: as, (k', w2) :: kvs, rfl, fun K => .cons (SqT.of ha) (hP K), by simp [ek], .cons q2 hr⟩
    · cases hp
theorem mergeD_rel : ∀ {ps : List (Key × D)} {kvs : List (Key × V)} {a : List Key × List D} {acc : List (Key × V)}, kvs.map (·.1) = ps.map (·.1) → Rs H F β (ps.map (·.2)) (kvs.map (·.2)) → a.1 = acc.map (·.1) → Rs H F β a.2 (acc.map (·.2)) →
    (mergeD ps a).1 = (mergeK acc kvs).map (·.1) ∧ Rs H F β (mergeD ps a).2 ((mergeK acc kvs).map (·.2))
  | [], [], a, acc, _, _, h1, h2 => ⟨h1, h2⟩
  | [], _ :: _, _, _, h, _, _, _ => by cases h
  | _ :: _, [], _, _, h, _, _, _ => by cases h
  | p :: ps, kv :: kvs, a, acc, h, q, h1, h2 => by
    simp only [List.map_cons, List.cons.injEq] at h
    obtain ⟨v, r, e, q1, q2⟩ := q.uncons
    simp only [List.map_cons, List.cons.injEq] at e
    obtain ⟨rfl, rfl⟩ := e
    obtain ⟨a1, a2⟩ := a
    simp only at h1 h2
    subst h1
    have z := putX_rel (k := p.1) h2 q1
    have e2 := mergeD_rel (ps := ps) (kvs := kvs) (a := putX (acc.map (·.1)) a2 p.1 p.2) (acc := putK acc p.1 kv.2) h.2 q2 z.1 z.2
    show (mergeD ps (putX (acc.map (·.1)) a2 p.1 p.2)).1 = (mergeK (putK acc kv.1 kv.2) kvs).map (·.1) ∧ Rs H F β (mergeD ps (putX (acc.map (·.1)) a2 p.1 p.2)).2 ((mergeK (putK acc kv.1 kv.2) kvs).map (·.2))
    rw [h.1]
    exact e2
theorem hitN_dK {g : Bag} (b : BagOk fr.β F H g) {ks : List Key} {ds : List D} {kv : List (Key × V)} (ek : ks = kv.map (·.1)) (h : Rs H F fr.β ds (kv.map (·.2))) {p : Addr} (hp : H p = none) : HitN fr F H g (.dK ks ds) (.ref p) (upd H p (.dK kv)) :=
  ⟨F, Ext.put hp, b.put hp, p, kv, rfl, hp, fun f => b.live p f hp, b.neN hp, upd_same, ek, h.ext b (Ext.put hp)⟩
theorem o_dict (hc : X.calm = true) : OpLN X fr (.type "dict") dictL := ⟨fun H F g xs ds d b rs e => by
  unfold dictL at e
  split at e
  · obtain ⟨ps, hp, rfl⟩ := Option.map_eq_some_iff.mp e
    obtain ⟨v, rfl, h1⟩ := rs1 rs
    obtain ⟨a, vs, rfl, f, h1, q⟩ := r_lst h1
    obtain ⟨as, kvs, rfl, hP, ek, hr⟩ := pairsD_some hp q
    have z := mergeD_rel (a := ([], [])) (acc := []) ek hr rfl .nil
    exact ⟨_, call_dictP hc, a, as, kvs, rfl, SqL.of h1, hP _, fun p hn => hitN_dK b z.1 z.2 hn⟩
  · cases e⟩
end
end VS

/-! VS16: dict stores, raise, defs. -/
namespace VS
open PySem PySem.Spec L2 RZ
open PyProof.Rows hiding St

section
variable {X : Cx} {fs : Fs} {L O O1 O2 O' : List Nat} {st : Stmt} {rest : List Stmt} {pos : Pos} {e : Expr} {σ : St} {H : Hp} {F : Reg} {env : Slots} {g : Bag} {Dn : Ends} {te tk : TE} {ρ κ : EX}
/-! ### x[k] = e, x a dict -/
def dictAt (env : Slots) (i : Nat) : Option D := match env[i]? with
  | some (some (.dK ks xs)) => some (.dK ks xs)
  | some (some (.dT ks xs)) => some (.dT ks xs)
  | _ => none
def putO (d k x : D) : Option D := match d with
  | .dK ks xs => (keyD k).bind fun k => if ks.length < line then some (.dK (putX ks xs k x).1 (putX ks xs k x).2) else none
  | .dT ks xs => (keyT k).bind fun k => if ks.length < line then some (.dT (putX ks xs k x).1 (putX ks xs k x).2) else none
  | _ => none
theorem dictAt_some {env : Slots} {i : Nat} {d : D} (h : dictAt env i = some d) : env[i]? = some (some d) ∧ ((∃ ks xs, d = .dK ks xs) ∨ ∃ ks xs, d = .dT ks xs) := by
  unfold dictAt at h
  split at h
  · rename_i ks xs e; cases h; exact ⟨e, .inl ⟨ks, xs, rfl⟩⟩
  · rename_i ks xs e; cases h; exact ⟨e, .inr ⟨ks, xs, rfl⟩⟩
  · cases h
/-- the dict of an owned slot is written -/
theorem SR.putD (r : SR fs O F env σ H g) {i : Nat} {d d' k x : D} {w v y : V} (hi : i ∈ O) (he : env[i]? = some (some d)) (hd : (∃ ks xs, d = .dK ks xs) ∨ ∃ ks xs, d = .dT ks xs) (es : σ[i]? = some (some w)) {F2 : Reg} (qk : R H F2 fs.fr.β k y) (qx : R H F fs.fr.β x v) (hp : putO d k x = some d') :
    ∃ a o, w = .ref a ∧ DPut H a y v (upd H a o) ∧ SR fs O F (env.set i (some d')) σ (upd H a o) g ∧ Kp F H (upd H a o) := by
  obtain ⟨v', ev, _, h2⟩ := r.val i d he
  rw [es] at ev
  cases ev
  have own := h2 hi
  rcases hd with ⟨ks, xs, rfl⟩ | ⟨ks, xs, rfl⟩
  · obtain ⟨a, kv, rfl, nf, n0, ha, rfl, q⟩ := own
    obtain ⟨z, hz, hp⟩ := Option.bind_eq_some_iff.mp hp
    split at hp
    · rename_i hl
      cases hp
      obtain ⟨rfl, _⟩ := keyD_some hz qk
      obtain ⟨p1, p2⟩ := putX_rel (k := z) q qx
      have kp : Kp F H (upd H a (.dK (putK kv z v))) := Kp.upd nf ha fun _ z => nomatch z
      obtain ⟨r2, k2⟩ := r.write (o := .dK (putK kv z v)) (d' := .dK (putX (kv.map (·.1)) xs z x).1 (putX (kv.map (·.1)) xs z x).2) hi he rfl rfl es (fun _ z => nomatch z) ⟨a, _, rfl, nf, n0, upd_same, p1, p2.kp kp fun _ f => f⟩
      exact ⟨a, _, rfl, DPut.k ha (by rw [line_eq]; simpa using hl), r2, k2⟩
    · cases hp
  · obtain ⟨a, kv, rfl, nf, n0, ha, rfl, q⟩ := own
    obtain ⟨z, hz, hp⟩ := Option.bind_eq_some_iff.mp hp
    split at hp
    · rename_i hl
      cases hp
      obtain ⟨b, rfl, hb, _⟩ := keyT_some hz qk
      obtain ⟨p1, p2⟩ := putX_rel (k := z) q qx
      have kp : Kp F H (upd H a (.dT (putK kv z v))) := Kp.upd nf ha fun _ z => nomatch z
      obtain ⟨r2, k2⟩ := r.write (o := .dT (putK kv z v)) (d' := .dT (putX (kv.map (·.1)) xs z x).1 (putX (kv.map (·.1)) xs z x).2) hi he rfl rfl es (fun _ z => nomatch z) ⟨a, _, rfl, nf, n0, upd_same, p1, p2.kp kp fun _ f => f⟩
      exact ⟨a, _, rfl, DPut.t ha hb (by rw [line_eq]; simpa using hl), r2, k2⟩
    · cases hp
def dputF (i : Nat) (κ ρ : EX) : SX := fun env => M.bnd (ρ env) fun x => M.bnd (M.ofO (dictAt env i)) fun d => M.bnd (κ env) fun k => M.bnd (M.ofO (putO d k x)) fun d' => if flat x = true then M.ret (.nx (env.set i (some d'))) else M.bad
theorem sv_dputF {i : Nat} (h : PS X st (sDPut (tVar i) tk te)) (rd : Red fs.fr te ρ) (rk : Red fs.fr tk κ) (hi : i ∈ O) : SV X fs L O st (dputF i κ ρ) O := by
  refine ⟨fun pins s σ H D I ⟨F, env, g, r, hg⟩ => h.run pins s σ H D I ?_⟩
  refine rd σ H _ env _ g r.er (gotS_exp r hg fun x g1 H1 F2 v r1 kp ex b qd hq => ?_)
  obtain ⟨d, he, hq⟩ := gotS_ofO hq
  obtain ⟨he, hd⟩ := dictAt_some he
  obtain ⟨w, ev, _, _⟩ := r1.val i d he
  refine ⟨w, ev, rk σ H1 _ env _ g1 r1.er (gotS_exp r1 hq fun k g2 H2 F3 y r2 kp2 ex2 b2 qk hq => ?_)⟩
  obtain ⟨d', hp, hq2⟩ := gotS_ofO hq
  obtain ⟨hf, hq3⟩ := gotS_chk hq2
  obtain ⟨a, o, rfl, dp, r3, k3⟩ := r2.putD hi he hd ev qk ((R.flat_ x v hf (F' := F) qd).kp kp2 fun _ f => f) hp
  exact ⟨a, _, rfl, dp, hq3 σ _ F r3 k3 fun _ f => f⟩
/-! ### {k: v}, k a tuple -/
def disp1T (κ ρ : EX) : EX := fun env => M.bnd (κ env) fun k => M.bnd (ρ env) fun x => M.bnd (M.ofO (keyT k)) fun k => M.ret (.dT [k] [x])
def tDisp1 (tk tv : TE) : TE := fun σ H Q => ∀ p, H p = none → tk σ (upd H p (.dT [])) fun y H1 => tv σ H1 fun v H2 => H2 p = some (.dT []) ∧ ∃ (k : List Key) (b : Addr), y = .ref b ∧ H2 b = some (.tup (k.map kV)) ∧ Q (.ref p) (upd H2 p (.dT [(k, v)]))
theorem pe_disp1 {ek ev : Expr} {tv : TE} (hu : X.A.units + 64 < cLine) (hk : PE X ek tk) (hv : PE X ev tv) : PE X (.Dict [some ek] [ev] pos) (tDisp1 tk tv) := by
  refine ⟨fun pins s σ H Q I q => ?_⟩
  have hn := I.hok.fresh (Nat.le_refl s.heap.objs.size)
  have I1 := I.laid (a := s.heap.objs.size) (o := .dT []) (h' := s.heap.push { cls := .type "dict", data := .dict #[] }) (t' := s.toks) (fun _ _ q => Heap.get?_push_of_some _ q) (Nat.le_refl _) (dt_empty s.heap I.big)
  rw [arm_eval_Dict, zip_pairTrees [some ek] [ev] X.env pos rfl rfl, dictDisplay_pairs (pairTrees [some ek] [ev] X.env pos) (by simp [pairTrees]) (by simp [pairTrees])]
  refine wpAny_bind (wpAny_standAt (wpAny_bind (wpAny_subDictH (knd := tupleKind (mixKind X.prog X.w)) (show X.A.units < cLine by omega) (by simp [pairTrees]) ?_)))
  refine pairTrees_cons_walk (thn (hk.run pins _ σ _ _ I1 (q _ hn)) fun u s1 ⟨y, H1, I2, ry, q1⟩ => thn (hv.run pins s1 σ H1 _ I2 q1) fun w2 s2 ⟨v, H2, I3, rv, e, k, b, ey, eb, q2⟩ => pairTrees_nil_walk ?_)
  subst ey
  obtain rfl : u = Value.ref b := ry
  obtain ⟨z, hd, xs, rel, dd⟩ := dt_of I3.hok e
  cases rel
  refine ⟨[(k, b, w2)], ⟨rfl, rfl, key_of I3.hok eb, trivial⟩, dd, fun h' tk' dd' hs => wpAny_pure ?_⟩
  have dd2 : h'.DictOfH (tupleKind (mixKind X.prog X.w)) s.heap.objs.size [(k, b, w2)] := dd'
  obtain ⟨q', es, ep, hq, h2, h3, h4, h6, h5⟩ := dd2
  refine ⟨.ref s.heap.objs.size, _, d_write (ob := .dT [(k, v)]) I3 (by rw [e]; exact True.intro) hs ⟨q', hq⟩ ⟨(by show 1 ≤ sizeLine; rw [sizeLine_eq]; decide), hd, [(k, b, w2)], .cons ⟨rfl, ?_, rv⟩ .nil, q', es, ep, hq, h2, h3, h4, h5⟩, rfl, q2⟩
  rw [upd_ne (ne_of eb e (fun z => nomatch z))]
  exact eb
theorem hitN_dT {fr : Fr} {g : Bag} (b : BagOk fr.β F H g) {ks : List (List Key)} {ds : List D} {kv : List (List Key × V)} (ek : ks = kv.map (·.1)) (h : Rs H F fr.β ds (kv.map (·.2))) {p : Addr} (hp : H p = none) : HitN fr F H g (.dT ks ds) (.ref p) (upd H p (.dT kv)) :=
  ⟨F, Ext.put hp, b.put hp, p, kv, rfl, hp, fun f => b.live p f hp, b.neN hp, upd_same, ek, h.ext b (Ext.put hp)⟩
end
end VS

/-! VS17: a dict with one tuple key; raise; defs. -/
namespace VS
open PySem PySem.Spec L2 RZ
open PyProof.Rows hiding St

section
variable {X : Cx} {fr : Fr} {pos : Pos} {ek ev e : Expr} {es : List Expr} {ρ κ : EX} {ρs : AX}
theorem evn_disp1 (hu : X.A.units + 64 < cLine) (hk : EV X fr ek κ) (hv : EV X fr ev ρ) : EVN X fr (.Dict [some ek] [ev] pos) (disp1T κ ρ) := by
  refine ⟨fun pins s σ H Q I ⟨env, F, g, r, hg⟩ => (pe_disp1 hu hk hv).run pins s σ H Q I fun p hp => ?_⟩
  have e0 : Ext fr.β F H F (upd H p (.dT [])) := Ext.put hp
  have r0 := r.ext e0 (r.bag.put hp)
  refine ⟨env, F, g, r0, ?_⟩
  rcases gotN_bnd hg with ⟨k, g1, ho, hg⟩ | ⟨c, pp, g', ho, hg⟩
  case inr => rw [ho]; exact fun H' F' cls dd ex b q => hg H' F' cls dd (e0.trans ex) b q
  rw [ho]
  intro y H1 F1 ex1 b1 q1
  have r1 := r0.ext ex1 b1
  refine ⟨env, F1, g1, r1, ?_⟩
  rcases gotN_bnd hg with ⟨x, g2, ho2, hg⟩ | ⟨c, pp, g', ho2, hg⟩
  case inr => rw [ho2]; exact fun H' F' cls dd ex b q => hg H' F' cls dd (e0.trans (ex1.trans ex)) b q
  rw [ho2]
  intro v H2 F2 ex2 b2 q2
  rcases gotN_bnd hg with ⟨kk, g3, ho3, hg⟩ | ⟨c, pp, g', ho3, hg⟩
  case inr => cases hkk : keyT k <;> rw [hkk] at ho3 <;> cases ho3
  cases hkk : keyT k with
  | none => rw [hkk] at ho3; cases ho3
  | some kt =>
    rw [hkk] at ho3
    cases ho3
    have q1' := q1.ext b1 ex2
    obtain ⟨b, rfl, hb, _⟩ := keyT_some hkk q1'
    have exx : Ext fr.β F (upd H p (.dT [])) F2 H2 := ex1.trans ex2
    have hpβ : some p ≠ fr.β := r.bag.neN hp
    have hp2 : H2 p = some (.dT []) := exx.keep p _ upd_same hpβ
    have nF : ¬ F2 p := fun f => (exx.new p f).elim (fun f => r.bag.live p f hp) fun z => by rw [upd_same] at z; cases z
    have bg : BagOk fr.β F2 (upd H2 p (.dT [(kk, v)])) g2 := b2.over hp2 fun xs z => by cases z
    have kp : Kp F2 H2 (upd H2 p (.dT [(kk, v)])) := Kp.upd nF hp2 fun xs z => by cases z
    have ef : Ext fr.β F H F2 (upd H2 p (.dT [(kk, v)])) := ⟨exx.mono, fun a f => (exx.new a f).imp id fun z => by
        by_cases h : a = p
        · rw [h]; exact hp
        · rw [upd_ne h] at z; exact z, fun a o h n => by
        rw [upd_ne (ne_of_none h hp)]
        exact exx.keep a o (by rw [upd_ne (ne_of_none h hp)]; exact h) n, fun a h => by
        by_cases z : a = p
        · rw [z]; exact hp
        · rw [upd_ne z] at h
          have := exx.there a h
          rw [upd_ne z] at this
          exact this⟩
    exact ⟨hp2, kk, b, rfl, hb, hg (.ref p) _ F2 ef bg ⟨p, [(kk, v)], rfl, hp, nF, hpβ, upd_same, rfl, (Rs.one q2).kp kp fun _ f => f⟩⟩
/-- a def that may raise is called where it does not -/
theorem ev_callC {k : Nat} {f : Addr} {fd : FuncData} {ps : List Str} {ρf : FX} {x : Str} {p : Pos} (G : FnOk X.prog X.w X.K X.mg X.base (L2.CX X.prog X.w) k f fd ps (spV fr.β fr.xc ps.length ρf)) (hr : Room k X.A) (hg : Gl X x) (hm : X.mg x = some (.ref f)) (hk : PySem.W.keepIn X.K (.ref f) = true) (hb : Binds X.K fd ps []) (ha : AV X fr (e :: es) ρs)
    (hdb : (x == ("__debug__" : Str)) = false := by decide) (he : starEach (e :: es) X.env = (false, eval e X.env) :: starEach es X.env := by rfl) (hpl : (backTo pos (starEach es X.env)).any (·.1) = false := by rfl) :
    EV X fr (.Call (.Name x p) (e :: es) [] pos) (fnE ρf ρs ps.length) := by
  refine ev_of _ _ _ (pe_call G hr hg hm hk hb .nil passL ha hdb he hpl) fun σ H Q env F g r hgt => ?_
  refine gotLE r hgt fun ds g1 H1 F1 vs ho ex er q hq => ?_
  rw [List.append_nil]
  exact spV_of er.bag q hq
end
/-! ### raise -/
section
variable {X : Cx} {fs : Fs} {L O O1 O2 O' : List Nat} {st : Stmt} {rest : List Stmt} {pos : Pos} {e : Expr} {σ : St} {H : Hp} {F : Reg} {env : Slots} {g : Bag} {Dn : Ends} {te tk : TE} {ρ κ : EX}
theorem SR.out {F2 : Reg} {H' : Hp} (r : SR fs O F env σ H g) (ex : Ext fs.fr.β (fun a => F a ∨ held O env σ a) H F2 H') : Ext fs.fr.β fs.F0 fs.H0 F2 H' :=
  ⟨fun a f => ex.mono a (.inl (r.ext.mono a f)), fun a f => (ex.new a f).elim (fun z => z.elim (r.ext.new a) fun ⟨i, d, hi, ed, c, es⟩ => by
      obtain ⟨v, ev, _, h2⟩ := r.val i d ed
      obtain ⟨b', o', eb, nf, n0, _, _⟩ := (h2 hi).at_ c
      rw [es] at ev
      cases ev
      cases eb
      exact .inr n0) fun z => .inr (r.ext.there a z), fun a o h n => ex.keep a o (r.ext.keep a o h n) n, fun a h => r.ext.there a (ex.there a h)⟩
def raiseS (c : Nat) (ρ : EX) : SX := fun env => M.bnd (ρ env) fun d g => .exn c d g
/-- an __init__ that keeps its one argument in the field f -/
def spIni (C : Addr) (f : Str) : Sp := fun vs H Q _ => ∃ (a : Addr) (y : V), vs = [.ref a, y] ∧ H a = some (exo a C none) ∧ ∀ dx, H dx = none → dx ≠ a → Q .non (upd (upd H dx (exd dx [(f, y)])) a (exo a C (some dx)))
theorem sv_raise {c : Nat} {C : Addr} {f : Str} (h : PS X st (fun _ σ H => tMkO C (spIni C f) [] (tCons te tNil) σ H fun cls d H' => fs.fr.W cls d σ H')) (rd : Red fs.fr te ρ) (hx : fs.fr.xc c = some (C, some f)) : SV X fs L O st (raiseS c ρ) O' := by
  refine ⟨fun pins s σ H D I ⟨F, env, g, r, hg⟩ => h.run pins s σ H D I ?_⟩
  refine rd σ H _ env _ g r.er (gotS_exp r hg fun d g1 H1 F2 v r1 kp ex b qd hq => ?_)
  refine ⟨by show 1 ≤ 1000; decide, fun a ha => ?_⟩
  refine ⟨a, v, rfl, upd_same, fun dx hdx ne => ⟨rfl, dx, [(f, v)], upd_same, by rw [upd_ne ne]; exact upd_same, ?_, ?_⟩⟩
  · rw [upd_ne ne] at hdx; exact hdx
  · rw [upd_ne ne] at hdx
    have eH : upd (del (upd (upd (upd H1 a (exo a C none)) dx (exd dx [(f, v)])) a (exo a C (some dx))) a) dx (.xd [(f, v)]) = upd H1 dx (.xd [(f, v)]) := by
      funext z
      by_cases z1 : z = dx
      · rw [z1, upd_same, upd_same]
      · rw [upd_ne z1, upd_ne z1]
        by_cases z2 : z = a
        · rw [z2, del_same, ha]
        · rw [del_ne z2, upd_ne z2, upd_ne z1, upd_ne z2]
    rw [eH]
    have e1 : Ext fs.fr.β F2 H1 F2 (upd H1 dx (.xd [(f, v)])) := Ext.put hdx
    exact hq σ _ F2 _ _ ((r.out ex).trans e1) (b.put hdx) ⟨C, some f, hx, rfl, dx, v, rfl, upd_same, b.neN hdx, qd.ext b e1⟩
end
/-! ### defs -/
def startE (N : List Str) (ds : List D) : Slots := ds.map some ++ List.replicate (N.length - ds.length) none
def endM : Fl → M D
  | .rt d => M.ret d
  | .nx _ => M.ret .non
  | _ => M.bad
def fnD (N : List Str) (ρ : SX) : FX := fun ds => M.bnd (ρ (startE N ds)) endM
theorem start_er {fr : Fr} {N : List Str} {F : Reg} {H : Hp} {g : Bag} {ds : List D} {vs : List V} (b : BagOk fr.β F H g) (q : Rs H F fr.β ds vs) : ER fr F (startE N ds) (L2.start N vs) H g := by
  have hl := q.length
  refine ⟨by simp [startE, L2.start, hl], fun i d h => ?_, b⟩
  unfold startE at h
  by_cases hi : i < (ds.map some).length
  · rw [List.getElem?_append_left hi, List.getElem?_map] at h
    cases hd : ds[i]? with
    | none => rw [hd] at h; cases h
    | some d' =>
      rw [hd] at h
      cases h
      obtain ⟨v, ev, r⟩ := q.get hd
      refine ⟨v, ?_, r⟩
      unfold L2.start
      rw [List.getElem?_append_left (by simpa [hl] using hi), List.getElem?_map, ev]
      rfl
  · rw [List.getElem?_append_right (by omega), List.getElem?_replicate] at h
    split at h <;> cases h
/-- a def's body -/
theorem fnV {P : Program} {w : World} {K : PySem.W.Frag} {mg : Str → Option Value} {base : Heap} {x qual : Str} {st : Stmt} {f : Addr} {fd : FuncData} {N ps : List Str} {k : Nat} (Fn : Fun K x qual st f fd) (S : FnScope N ps (defScope st)) (β : Option Addr) (xc : Nat → Option (Addr × Option Str)) (ρ : SX)
    (hb : ∀ (cdv : Value) (A : Around) (outer : List Env) (s : Shared) (H : Hp) (E : XK), Room k (A.deeper (envOfC qual (defScope st) s.heap.objs.size f cdv)) → ∀ F : Reg,
      SVs (cxOf (L2.CX P w) P w K mg base N qual (defScope st) f cdv A outer s H E) ⟨⟨β, fun cls d _ H => E cls d H, xc⟩, F, H⟩ [] [] (defBody st) ρ []) :
    FnOk P w K mg base (L2.CX P w) (k + 1) f fd ps (spV β xc ps.length (fnD N ρ)) := by
  refine Fn.okX S (fun vs H Q E h => h.1) fun cdv A outer s H vs Q E hr h => ⟨_, hb cdv A outer s H E hr h.2.choose, ?_⟩
  obtain ⟨hl, h2⟩ := h
  obtain ⟨g, ds, b, q, hm⟩ := h2.choose_spec
  have er := start_er (fr := ⟨β, fun cls d _ H => E cls d H, xc⟩) (N := N) b q
  refine ⟨h2.choose, startE N ds, g, ⟨er.len, fun i d e => let ⟨v, ev, r⟩ := er.val i d e; ⟨v, ev, fun _ => r, (fun z => by cases z)⟩, (fun i j d e a hi => by cases hi), b, Ext.refl _ _ _, fun c e z => ?_⟩, ?_⟩
  · have h3 := (b.at_ c e).2
    have z : H c = none := z
    rw [z] at h3
    cases h3
  · unfold fnD M.bnd at hm
    cases ho : ρ (startE N ds) g with
    | bad => rw [ho] at hm; exact hm
    | exn c p g' => rw [ho] at hm; exact fun σ' H' F' cls dd e b q => hm H' F' cls dd e b q
    | ok fl g' =>
      rw [ho] at hm
      cases fl with
      | nx env' => exact fun σ' H' F' r _ _ => hm .non H' F' r.ext r.bag non_r
      | brk env' => exact (show False from hm).elim
      | ct env' => exact (show False from hm).elim
      | rt d => exact fun v H' F' e b q _ => hm v H' F' e b q
end VS

/-! VS18: enumerate over a tuple. -/
namespace VS
open PySem PySem.Spec L2 RZ
open PyProof.Rows hiding St
open AutoSeq1 (wpAny_loadPart')

theorem drawsT {prog : Program} {w : World} {A : Around} (hh : A.handled = none) (it l : Addr) (hne : l ≠ it) (items : Array Value) :
    Draws prog w A it [it, l] items.size (fun i v => items[i]? = some v) (fun i h => h.IsTupleIter it l i ∧ h.IsTuple l items) where
  live := fun _ _ st => let ⟨o, ho, _⟩ := st.1; ⟨o, ho⟩
  frame := fun _ _ _ st hk => ⟨let ⟨o, ho, r⟩ := st.1; ⟨o, hk it (by simp) o ho, r⟩, let ⟨o, ho, r⟩ := st.2; ⟨o, hk l (by simp) o ho, r⟩⟩
  item := fun i s Q E hi st hQ => by
    refine RZ.nextOf_tuple_item st.1 st.2 (x := items[i]) (by simp [hi]) fun h' hit' hs' => ?_
    exact hQ _ h' s.toks (by simp [hi]) ⟨hit', st.2.extBut hs'.extBut hne⟩ hs'
  done := fun s Q E st hE => RZ.nextOf_tuple_end hh st.1 st.2 (by simp) hE

theorem meets_enumerate_newT (l : Addr) (items : Array Value) (n : Nat) (dct : Option Addr) (sl : Array (Option Value)) :
    Meets (Builtin.«enumerate.__new__» ⟨[.type "enumerate", .ref l], []⟩) (fun _ R s => s.heap.get? l = some { cls := .type "tuple", dict := dct, data := .seq items n, slots := sl } ∧
      R (.ok (.ret (.ref (s.heap.push { cls := .type "tuple_iterator", data := .fields #[.ref l, .int 0 0] }).objs.size)))
        { s with heap := (s.heap.push { cls := .type "tuple_iterator", data := .fields #[.ref l, .int 0 0] }).push { cls := .type "enumerate", data := .fields #[.none, .bool false, .ref s.heap.objs.size, rawInt 0, .none, .none] } }) :=
  .of_wp fun prog w A R s h => by
    obtain ⟨hp, g, d, tk, os⟩ := s; obtain ⟨hl, h⟩ := h
    have hsub := sub_enumerate
    have hL : Heap.IsTuple (Shared.heap ⟨hp, g, d, tk, os⟩) l items := ⟨_, hl, rfl, n, rfl⟩
    wp_walk using wpAny_loadPart' hl
    refine wpAny_stack_any fun st => wpAny_pure ?_
    split
    · rename_i c _ _ _ _ _
      cases (c == Value.type "enumerate")
      · wp_walk using wpAny_loadPart' hl, wpAny_pyIter_tuple hL
        exact ⟨_, rfl, h⟩
      · wp_walk using wpAny_loadPart' hl, wpAny_pyIter_tuple hL
        exact ⟨_, rfl, h⟩
    · wp_walk using wpAny_loadPart' hl, wpAny_pyIter_tuple hL
      exact ⟨_, rfl, h⟩
section
variable {prog : Program} {w : World} {A : Around} {E : Value → Shared → Prop} {s : Shared}
theorem call_enumerate_tuple {l : Addr} {items : Array Value} {Q : Value → Shared → Prop} (hL : s.heap.IsTuple l items)
    (h : ∀ h', IsEnum h' (s.heap.objs.size + 1) s.heap.objs.size 0 .none → h'.IsTupleIter s.heap.objs.size l 0 → h'.objs.size = s.heap.objs.size + 2 →
      (∀ b o, s.heap.get? b = some o → h'.get? b = some o) → Q (.ref (s.heap.objs.size + 1)) { s with heap := h' }) :
    wpAny (model prog w) A (call (.type "enumerate") [.ref l]) Q E s := by
  obtain ⟨⟨c, dct, dt, sl⟩, hl, hc, n, hd⟩ := hL
  replace hc : c = .type "tuple" := hc
  replace hd : dt = .seq items n := hd
  subst hc hd
  refine callType_new F.called_enumerate (by decide) (F.typeCall_enumerate_1 _) (F.newCall_enumerate_1 _) (fun obj => F.args_object_init_2 obj _) F.entry_enumerate_new
    (meets_enumerate_newT l items n dct sl) ⟨hl, ?_⟩
  have hz : (s.heap.push { cls := .type "tuple_iterator", data := .fields #[.ref l, .int 0 0] }).objs.size = s.heap.objs.size + 1 := Heap.size_push ..
  show _ ∧ _
  rw [hz]
  have he : IsEnum ((s.heap.push { cls := .type "tuple_iterator", data := .fields #[.ref l, .int 0 0] }).push
      { cls := .type "enumerate", data := .fields #[.none, .bool false, .ref s.heap.objs.size, rawInt 0, .none, .none] }) (s.heap.objs.size + 1) s.heap.objs.size 0 .none := by
    have := Heap.get?_push_size (s.heap.push { cls := .type "tuple_iterator", data := .fields #[.ref l, .int 0 0] })
      (o := { cls := .type "enumerate", data := .fields #[.none, .bool false, .ref s.heap.objs.size, rawInt 0, .none, .none] }) rfl
    rw [hz] at this; exact this
  refine ⟨⟨_, he, rfl⟩, h _ he ⟨_, Heap.get?_push_of_some _ (Heap.get?_push_size _ rfl), rfl, rfl⟩ (by rw [Heap.size_push, hz]) fun b o x => Heap.get?_push_of_some _ (Heap.get?_push_of_some _ x)⟩
end
/-- the tuple at a, its items with their numbers, in new pairs -/
def IteT (K : PySem.W.Frag) (a : Addr) : It :=
  ⟨fun i H => ∃ (xs : List V) (x : V), SqT K H a xs ∧ xs[i]? = some x, fun i H v H' => ∃ T x, v = .ref T ∧ H T = none ∧ H' = upd H T (.tup [.int (i : Nat), x]) ∧ ∀ xs, SqT K H a xs → xs[i]? = some x, fun i H => ∃ xs : List V, SqT K H a xs ∧ xs.length ≤ i⟩
theorem turn_enumT {P : Program} {w : World} {K : PySem.W.Frag} {elts : List Expr} {kk : Nat} {tpos : Pos} (a e it : Addr) :
    Turn P w K (.Tuple elts kk tpos) (IteT K a) [e, it] e (fun i h => (∃ old, IsEnum h e it ((i : Nat) : Int) old) ∧ h.IsTupleIter it a i ∧ e ≠ it ∧ a ≠ it ∧ e ≠ a) where
  mem := by simp
  obj := fun i h st b hb => by
    obtain ⟨⟨old, he⟩, ⟨o, ho, hc, hd⟩, _⟩ := st
    have e' : b = e ∨ b = it := by simpa using hb
    rcases e' with z | z
    · rw [z]; exact ⟨_, he, fun v q => nomatch q⟩
    · rw [z]; exact ⟨o, ho, fun v q => by rw [hd] at q; cases q⟩
  keep := fun i h h' st k => let ⟨⟨old, he⟩, hi, hne⟩ := st; ⟨⟨old, k e (by simp) _ he⟩, let ⟨o, ho, r⟩ := hi; ⟨o, k it (by simp) o ho, r⟩, hne⟩
  item := by
    intro X hP hw hK hc i pins s σ H E I hf st hg
    subst hP hw hK
    obtain ⟨⟨old, he⟩, hit, hne, hai, hea⟩ := st
    obtain ⟨xs, x, hq, hx⟩ := hg
    obtain ⟨its, rv, p, hz⟩ := I.tuple hq
    obtain ⟨u, hu, ru⟩ := rv.get hx
    have hel : e < s.heap.objs.size := Heap.lt_size he
    have hil : it < s.heap.objs.size := by obtain ⟨_, q, _⟩ := hit; exact Heap.lt_size q
    have hlt : i < its.toArray.size := by
      have := (List.getElem?_eq_some_iff.mp hu).1
      simpa using this
    refine wpAny_pyNext_enum_itemD (drawsT (by show X.A.handled = none; exact I.ok.hd hc) it a hai its.toArray) he ⟨hit, p⟩ hlt hne (by simp [hne, hea]) fun x2 h' tk hx2 ho hst hT hsz hk => ?_
    have e2 : x2 = u := by
      have q : its.toArray[i]? = some u := by simpa using hu
      rw [q] at hx2
      exact (Option.some.inj hx2).symm
    subst e2
    refine ⟨_, rfl, wpAny_letOwnedTupleGo_enum (s := { s with heap := h', toks := tk + 1 }) ho fun h'' he' sb => ?_⟩
    have hT2 : h''.get? s.heap.objs.size = some { cls := .type "tuple", data := .seq #[.int i tk, x2] } := (sb.2 _ (Nat.ne_of_gt hel)).trans hT
    have new : ObjOk X.prog X.w (upd H s.heap.objs.size (.tup [.int (i : Nat), x])) h'' s.heap.objs.size (.tup [.int (i : Nat), x]) :=
      ⟨by show 2 ≤ sizeLine; decide, [.int i tk, x2], .cons ⟨_, rfl⟩ (.cons ru .nil), ⟨_, hT2, rfl, _, rfl⟩⟩
    have I1 : Inv X pins σ (upd H s.heap.objs.size (.tup [.int (i : Nat), x])) { s with heap := h'', toks := tk + 1 } :=
      I.turnedNew (ch := [e, it]) (fun b ob hb q => (sb.2 b (fun z => hb (by simp [z]))).trans (hk b ob (fun z => hb (by simp [z])) (fun z => hb (by simp [z])) q)) hf (Nat.le_refl _) new
    refine ⟨.ref s.heap.objs.size, _, I1, rfl, ⟨_, x, rfl, I.hok.fresh (Nat.le_refl _), rfl, fun ys hy => by rw [I.tuple_inj hy hq]; exact hx⟩, ⟨⟨x2, ?_⟩, let ⟨o, ho, r⟩ := hst.1; ⟨o, (sb.2 it (Ne.symm hne)).trans ho, r⟩, hne, hai, hea⟩, fun b hb => ?_⟩
    · have e1 : ((i + 1 : Nat) : Int) = (i : Int) + 1 := by omega
      rw [e1]; exact he'
    · have hb' : b < s.heap.objs.size := by
        have e' : b = e ∨ b = it := by simpa using hb
        rcases e' with z | z
        · rw [z]; exact hel
        · rw [z]; exact hil
      rw [upd_ne (Nat.ne_of_lt hb')]
      exact (hf b hb).1
  done := by
    intro X hP hw hK hc i pins s σ H E I hf st hg
    subst hP hw hK
    obtain ⟨⟨old, he⟩, hit, hne, hai, hea⟩ := st
    obtain ⟨xs, hq, hx⟩ := hg
    obtain ⟨its, rv, p, hz⟩ := I.tuple hq
    obtain ⟨f0, f1, f2, f3, f4, f5⟩ := hf it (by simp)
    have hl := rv.length
    have hT : s.TypeIs (.ref e) "enumerate" := ⟨_, he, rfl⟩
    unfold pyNext
    refine wpAny_bind (wpAny_attempt (wpAny_callSpecial?_slot (name := Str.ofString "__next__") hT F.slot_enumerate_next
      (wpAny_call_entry F.slot_enumerate_next hT F.entry_enumerate_next ?_ (F.args_enumerate_next_1 _))))
    show wpAny _ _ (field (.ref e) 2 >>= _) _ _ _
    refine wpAny_bind (wpAny_field he rfl (x := .ref it) rfl ?_)
    refine wpAny_bind (RZ.nextOf_tuple_end (by show X.A.handled = none; exact I.ok.hd hc) hit p (by simp; omega) fun h' x eb hx' => ?_)
    obtain ⟨o, ho, hcc⟩ := hx'
    refine wpAny_bind (wpAny_isInstance (T := "StopIteration") (b := true) ⟨o, ho, hcc⟩ isSubtype_stop ?_)
    exact wpAny_pure ⟨rfl, I.turned (t' := s.toks) (fun b o hb q => eb b o hb q) f0 f1 f3 f4 f5⟩
  self := fun A i s Q E st h => let ⟨⟨_, he⟩, _⟩ := st; wpAny_pyIter_enum he h
def iEnumT (K : PySem.W.Frag) (ta : TA) : TI := fun σ H R => ta σ H fun vs H1 => ∃ a xs, vs = [.ref a] ∧ SqT K H1 a xs ∧ R (IteT K a) H1
theorem pi_enumT {X : Cx} {e : Expr} {ta : TA} {p pos tpos : Pos} {elts : List Expr} {kk : Nat} (hg : Gl X "enumerate") (hm : X.mg "enumerate" = none) (ha : PA X [e] ta) (hs : starEach [e] X.env = [(false, eval e X.env)] := by rfl) :
    PI X (.Tuple elts kk tpos) (.Call (.Name "enumerate" p) [e] [] pos) (iEnumT X.K ta) := by
  refine ⟨fun pins s σ H R I h => ?_⟩
  refine Call_ (ld_blt I hg hm boot_enumerate (PyProof.Rows.callWith_type1 (thn (ha.run pos pins s σ H _ I h) fun us s1 ⟨vs, H1, I1, r1, q1⟩ => ?_) hs rfl))
  obtain ⟨a, xs, ex, hq, q⟩ := q1
  subst ex
  cases r1 with
  | cons r rr =>
    cases rr
    cases r
    obtain ⟨its, rv, p', hz⟩ := I1.tuple hq
    have hal : a < s1.heap.objs.size := by obtain ⟨_, z, _⟩ := p'; exact Heap.lt_size z
    refine call_enumerate_tuple p' fun h' he hit hsz hk => wpAny_pyIter_enum he ?_
    have I2 : Inv X pins σ H1 { s1 with heap := h' } := I1.kept (t' := s1.toks) hk
    refine ⟨s1.heap.objs.size + 1, [s1.heap.objs.size + 1, s1.heap.objs.size], _, _, H1, rfl, I2, turn_enumT a (s1.heap.objs.size + 1) s1.heap.objs.size, ⟨⟨.none, he⟩, hit, Nat.succ_ne_self _, Nat.ne_of_lt hal, Nat.ne_of_gt (Nat.lt_succ_of_lt hal)⟩, fun b hb => ?_, q⟩
    have e' : b = s1.heap.objs.size + 1 ∨ b = s1.heap.objs.size := by simpa using hb
    have hle : s1.heap.objs.size ≤ b := by
      rcases e' with z | z
      · rw [z]; exact Nat.le_add_right _ _
      · rw [z]; exact Nat.le_refl _
    exact I1.fpOk hle (I1.hok.fresh hle)
theorem walk_enumT {K : PySem.W.Frag} {a : Addr} {xs : List V} : Walk (IteT K a) xs.length (fun H => SqT K H a xs) (YPair (fun i => some (.int (i : Nat))) (fun i => xs[i]?)) := by
  refine ⟨fun i _ hi q => ⟨xs, xs[i], q, by simp [hi]⟩, fun _ q => ⟨xs, q, Nat.le_refl _⟩, fun i H v H' _ q y => ?_⟩
  obtain ⟨T, x, h1, h2, h3, h4⟩ := y
  exact ⟨T, .int (i : Nat), x, h1, h2, h3, rfl, h4 xs q⟩
def enumTI (ρs : AX) : IX := fun env => M.bnd (ρs env) fun ds => M.ofO (match ds with
  | [.tup xs] => some (enumD 0 xs)
  | _ => none)
section
variable {X : Cx} {fr : Fr} {e : Expr} {ρs : AX} {pos : Pos}
theorem iv_enumT {p tpos : Pos} {elts : List Expr} {kk : Nat} (hg : Gl X "enumerate") (hm : X.mg "enumerate" = none) (ha : AV X fr [e] ρs) (hs : starEach [e] X.env = [(false, eval e X.env)] := by rfl) :
    IV X fr (.Tuple elts kk tpos) (.Call (.Name "enumerate" p) [e] [] pos) (enumTI ρs) := by
  refine ⟨fun pins s σ H P I ⟨env, F, g, r, hgt⟩ => (pi_enumT hg hm ha hs).run pins s σ H P I (gotLI r hgt fun ds g1 H1 F1 vs ho ex er q hq => ?_)⟩
  obtain ⟨ys, ey, hq⟩ := ofOI_got hq
  split at ey
  · rename_i xs
    cases ey
    obtain ⟨v, rfl, h1⟩ := rs1 q
    obtain ⟨a, us, rfl, ha1, q1⟩ := r_tup h1
    refine ⟨a, us, rfl, SqT.of ha1, hq _ H1 F1 (Ext.refl _ _ _) er.bag (wk_pairs (ds := enumD 0 xs) (by rw [enumD_length, q1.length]; exact walk_enumT) (fun H2 k => SqT.of (k.tup a _ ha1)) fun i x y hi e1 e2 => ?_)⟩
    obtain ⟨d, ed, rd⟩ := q1.getV e2
    refine ⟨.int i, d, by rw [enumD_get, ed]; simp, ?_, rd⟩
    cases e1
    exact int_r
  · cases ey
end
end VS

/-! VS19: chained comparisons, a thing handed on, names. -/
namespace VS
open PySem PySem.Spec L2 RZ
open PyProof.Rows hiding St

def cmpI : CmpOp → Int → Int → Bool
  | .Lt, i, j => decide (i < j)
  | .LtE, i, j => decide (i ≤ j)
  | .Gt, i, j => decide (j < i)
  | .GtE, i, j => decide (j ≤ i)
  | _, _, _ => false
def chE (op op' : CmpOp) (a b c : EX) : EX := fun env => M.bnd (a env) fun x => M.bnd (b env) fun y => M.bnd (M.ofO (asI x)) fun i => M.bnd (M.ofO (asI y)) fun j =>
  if cmpI op i j = true then M.bnd (c env) fun z => M.bnd (M.ofO (asI z)) fun k => M.ret (.bl (cmpI op' j k)) else M.ret (.bl false)
def isCmpI (op : CmpOp) : Prop := op = .Lt ∨ op = .LtE ∨ op = .Gt ∨ op = .GtE
section
variable {X : Cx} {fr : Fr} {a b c : Expr} {ρa ρb ρc : EX} {pos : Pos} {op op' : CmpOp}
theorem op_cmpI (h : isCmpI op) : OpR X (compareOp op) (rI0 fun i j => .bl (cmpI op i j)) := by
  rcases h with rfl | rfl | rfl | rfl
  · exact op_lt
  · exact op_le
  · exact op_gt
  · exact op_ge
theorem got_ofO {α : Type} {o : Option α} {F : Reg} {σ : St} {H : Hp} {Q : VK} {g : Bag} {f : α → M D} (h : Got fr F σ H Q (M.bnd (M.ofO o) f g)) : ∃ a, o = some a ∧ Got fr F σ H Q (f a g) := by
  cases o with
  | none => exact (show False from h).elim
  | some a => exact ⟨a, rfl, h⟩
theorem ev_chain (h1 : isCmpI op) (h2 : isCmpI op') (ha : EV X fr a ρa) (hb : EV X fr b ρb) (hc : EV X fr c ρc)
    (hm : lastMarks [op, op'] [b, c] = false := by with_unfolding_all rfl) : EV X fr (.Compare a [op, op'] [b, c] pos) (chE op op' ρa ρb ρc) := by
  refine ev_of _ _ _ (pe_chain (op_cmpI h1) (op_cmpI h2) ha hb hc hm) fun σ H Q env F g r hg => ?_
  refine got_seq r hg fun x g1 H1 F1 v ho ex er q hq => got_seq er hq fun y g2 H2 F2 w ho2 ex2 er2 q2 hq2 => ?_
  obtain ⟨i, hi, hq3⟩ := got_ofO hq2
  obtain ⟨j, hj, hq4⟩ := got_ofO hq3
  have q1 := q.ext er.bag ex2
  rw [asI_some hi] at q1
  rw [asI_some hj] at q2
  refine ⟨i, j, r_int q1, r_int q2, cmpI op i j, rfl, ?_⟩
  by_cases hk : cmpI op i j = true
  · rw [if_pos hk] at hq4 ⊢
    refine got_seq er2 hq4 fun z g3 H3 F3 u ho3 ex3 er3 q3 hq5 => ?_
    obtain ⟨k, hk2, hq6⟩ := got_ofO hq5
    rw [asI_some hk2] at q3
    exact ⟨j, k, r_int q2, r_int q3, got_hit hq6 (hit_here er3.bag bl_r)⟩
  · rw [if_neg hk] at hq4 ⊢
    exact got_hit hq4 (hit_here er2.bag bl_r)
theorem tT_val {fr : Fr} {ρ : EX} {t : TE} (h : ∀ σ H Q env F g, ER fr F env σ H g → Got fr F σ H Q (ρ env g) → t σ H Q) : ∀ σ H Q env F g, ER fr F env σ H g → GotB fr F σ H Q (valT ρ env g) → tTest t σ H Q := fun σ H Q env F g r hg => by
  refine h σ H _ env F g r ?_
  unfold valT M.bnd at hg
  cases ho : ρ env g with
  | bad => rw [ho] at hg; exact hg
  | exn c p g' => rw [ho] at hg; exact hg
  | ok d g' =>
    rw [ho] at hg
    intro v H' F' ex b q
    obtain ⟨k, ek, hg⟩ := ofOB_got (show GotB fr F σ H Q (M.ofO (asB d) g') from hg)
    cases d with
    | bl b' =>
      cases ek
      exact ⟨_, r_bl q, hg H' F' ex b⟩
    | _ => cases ek
theorem tv_chain (h1 : isCmpI op) (h2 : isCmpI op') (ha : EV X fr a ρa) (hb : EV X fr b ρb) (hc : EV X fr c ρc)
    (hm : lastMarks [op, op'] [b, c] = false := by with_unfolding_all rfl) : TV X fr (.Compare a [op, op'] [b, c] pos) (valT (chE op op' ρa ρb ρc)) := by
  refine tv_of _ _ _ (pt_chain (op_cmpI h1) (op_cmpI h2) ha hb hc hm) (tT_val fun σ H Q env F g r hg => ?_)
  refine got_seq r hg fun x g1 H1 F1 v ho ex er q hq => got_seq er hq fun y g2 H2 F2 w ho2 ex2 er2 q2 hq2 => ?_
  obtain ⟨i, hi, hq3⟩ := got_ofO hq2
  obtain ⟨j, hj, hq4⟩ := got_ofO hq3
  have q1 := q.ext er.bag ex2
  rw [asI_some hi] at q1
  rw [asI_some hj] at q2
  refine ⟨i, j, r_int q1, r_int q2, cmpI op i j, rfl, ?_⟩
  by_cases hk : cmpI op i j = true
  · rw [if_pos hk] at hq4 ⊢
    refine got_seq er2 hq4 fun z g3 H3 F3 u ho3 ex3 er3 q3 hq5 => ?_
    obtain ⟨k, hk2, hq6⟩ := got_ofO hq5
    rw [asI_some hk2] at q3
    exact ⟨j, k, r_int q2, r_int q3, got_hit hq6 (hit_here er3.bag bl_r)⟩
  · rw [if_neg hk] at hq4 ⊢
    exact got_hit hq4 (hit_here er2.bag bl_r)
end
/-! ### a thing handed on: i = j, j's thing -/
section
variable {X : Cx} {fs : Fs} {L O O1 O2 O' : List Nat} {st : Stmt} {σ : St} {H : Hp} {F : Reg} {env : Slots} {g : Bag}
def mvS (i j : Nat) : SX := fun env => M.bnd (M.ofO (env[j]?.bind id)) fun d => M.ret (.nx ((env.set i (some d)).set j none))
theorem SR.clear (r : SR fs O F env σ H g) (j : Nat) : SR fs O F (env.set j none) σ H g := by
  have h0 : ∀ {i : Nat} {d : D}, (env.set j none)[i]? = some (some d) → env[i]? = some (some d) := fun {i d} h => by
    by_cases e : i = j
    · subst e
      have hl : i < env.length := by
        have := (List.getElem?_eq_some_iff.mp h).1
        simpa using this
      rw [List.getElem?_set_self hl] at h
      cases h
    · rw [List.getElem?_set_ne (Ne.symm e)] at h
      exact h
  exact ⟨by simpa using r.len, fun i d h => r.val i d (h0 h), fun i k d e a hi hk ne h h' => r.sep i k d e a hi hk ne (h0 h) (h0 h'), r.bag, r.ext, r.nb⟩
theorem sv_mv {i j : Nat} (h : PS X st (tAsg (tVar j) (gName i))) (hne : i ≠ j) (hj : j ∈ O) (hO : ∀ k, k ≠ i → (k ∈ O' ↔ k ∈ O ∧ k ≠ j)) (hi : i ∈ O') : SV X fs L O st (mvS i j) O' := by
  refine ⟨fun pins s σ H Dn I ⟨F, env, g, r, hg⟩ => h.run pins s σ H Dn I ?_⟩
  obtain ⟨d, hd, hg2⟩ := gotS_ofO hg
  have he : env[j]? = some (some d) := by
    cases q : env[j]? with
    | none => rw [q] at hd; cases hd
    | some x =>
      rw [q] at hd
      have hd : x = some d := hd
      rw [hd]
  obtain ⟨v, ev, _, ho⟩ := r.val j d he
  refine ⟨v, ev, ?_⟩
  refine hg2 _ H F ?_ (Kp.refl F H) fun _ f => f
  have own := ho hj
  have r0 := r.clear j
  have hset : (env.set i (some d)).set j none = (env.set j none).set i (some d) := List.set_comm _ _ hne
  rw [hset]
  -- what a slot other than i holds
  have old : ∀ {k : Nat} {e : D}, k ≠ i → ((env.set j none).set i (some d))[k]? = some (some e) → env[k]? = some (some e) ∧ k ≠ j := fun {k e} z hk => by
    rw [List.getElem?_set_ne (Ne.symm z)] at hk
    by_cases q : k = j
    · subst q
      have hl : k < env.length := by
        have := (List.getElem?_eq_some_iff.mp hk).1
        simpa using this
      rw [List.getElem?_set_self hl] at hk
      cases hk
    · rw [List.getElem?_set_ne (Ne.symm q)] at hk
      exact ⟨hk, q⟩
  have at_i : ∀ {e : D}, ((env.set j none).set i (some d))[i]? = some (some e) → e = d ∧ (σ.set i (some v))[i]? = some (some v) := fun {e} hk => by
    have hl : i < (env.set j none).length := by
      have := (List.getElem?_eq_some_iff.mp hk).1
      simpa using this
    rw [List.getElem?_set_self hl] at hk
    cases hk
    exact ⟨rfl, by rw [List.getElem?_set_self (by rw [← r0.len]; exact hl)]⟩
  refine ⟨by simpa using r.len, fun k e hk => ?_, fun k l e e' a hk hl hkl h1 h2 c1 c2 s1 s2 => ?_, r.bag, r.ext, r.nb⟩
  · by_cases z : k = i
    · subst z
      obtain ⟨rfl, ev2⟩ := at_i hk
      exact ⟨v, ev2, fun hm => absurd hi hm, fun _ => own⟩
    · obtain ⟨hk2, kj⟩ := old z hk
      obtain ⟨u, e2, q1, q2⟩ := r.val k e hk2
      exact ⟨u, by rw [List.getElem?_set_ne (Ne.symm z)]; exact e2, fun hm => q1 fun hh => hm ((hO k z).mpr ⟨hh, kj⟩), fun hm => q2 ((hO k z).mp hm).1⟩
  · by_cases zk : k = i
    · subst zk
      have zl : l ≠ k := fun q => hkl q.symm
      obtain ⟨rfl, ev2⟩ := at_i h1
      rw [ev2] at s1
      cases s1
      obtain ⟨hl2, lj⟩ := old zl h2
      rw [List.getElem?_set_ne (Ne.symm zl)] at s2
      exact r.sep j l _ _ a hj ((hO l zl).mp hl).1 (Ne.symm lj) he hl2 c1 c2 ev s2
    · obtain ⟨hk2, kj⟩ := old zk h1
      rw [List.getElem?_set_ne (Ne.symm zk)] at s1
      by_cases zl : l = i
      · subst zl
        obtain ⟨rfl, ev2⟩ := at_i h2
        rw [ev2] at s2
        cases s2
        exact r.sep k j _ _ a ((hO k zk).mp hk).1 hj kj hk2 he c1 c2 s1 ev
      · obtain ⟨hl2, lj⟩ := old zl h2
        rw [List.getElem?_set_ne (Ne.symm zl)] at s2
        exact r.sep k l _ _ a ((hO k zk).mp hk).1 ((hO l zl).mp hl).1 hkl hk2 hl2 c1 c2 s1 s2
end
end VS

/-! VS20: what a written walk wants: lists of slots, defs at their places. -/
namespace VS
open PySem PySem.Spec L2 RZ
open PyProof.Rows hiding St

def okSub (O1 O : List Nat) : Bool := O1.all fun i => O.contains i
theorem osub {O1 O : List Nat} (h : okSub O1 O = true) : ∀ i, i ∈ O1 → i ∈ O := fun i hi => by
  have := List.all_eq_true.mp h i hi
  simpa using this
def okSet (O O' : List Nat) (i : Nat) : Bool := (O'.all fun j => j == i || O.contains j) && O.all fun j => j == i || O'.contains j
theorem oset {O O' : List Nat} {i : Nat} (h : okSet O O' i = true) : ∀ j, j ≠ i → (j ∈ O' ↔ j ∈ O) := fun j hj => by
  simp only [okSet, Bool.and_eq_true] at h
  refine ⟨fun hm => ?_, fun hm => ?_⟩
  · have := List.all_eq_true.mp h.1 j hm
    simpa [hj] using this
  · have := List.all_eq_true.mp h.2 j hm
    simpa [hj] using this
def okMv (O O' : List Nat) (i j : Nat) : Bool := (O'.all fun k => k == i || (O.contains k && !(k == j))) && O.all fun k => k == i || k == j || O'.contains k
theorem omv {O O' : List Nat} {i j : Nat} (h : okMv O O' i j = true) : ∀ k, k ≠ i → (k ∈ O' ↔ k ∈ O ∧ k ≠ j) := fun k hk => by
  simp only [okMv, Bool.and_eq_true] at h
  refine ⟨fun hm => ?_, fun hm => ?_⟩
  · have := List.all_eq_true.mp h.1 k hm
    simpa [hk] using this
  · have := List.all_eq_true.mp h.2 k hm.1
    simpa [hk, hm.2] using this
def okWo (O1 O : List Nat) (i : Nat) : Bool := O1.all fun j => O.contains j && !(j == i)
theorem owo {O1 O : List Nat} {i : Nat} (h : okWo O1 O i = true) : ∀ j, j ∈ O1 → j ∈ O ∧ j ≠ i := fun j hj => by
  have := List.all_eq_true.mp h j hj
  simpa using this
/-- the def x, written at the place st -/
structure DefAt (K : PySem.W.Frag) (mg : Str → Option Value) (x : Str) (st : Stmt) (ps : List Str) where
  f : Addr
  fd : FuncData
  F : Fun K x x st f fd
  b : Binds K fd ps []
  m : mg x = some (.ref f)
  k : PySem.W.keepIn K (.ref f) = true
/-- an exception class with its __init__, which keeps one argument -/
structure ExcDef (K : PySem.W.Frag) (mg : Str → Option Value) (x qual fld : Str) (st : Stmt) (ps : List Str) where
  C : Addr
  f : Addr
  fd : FuncData
  T : OexC K C
  i : PySem.W.findIn K (.ref C) "__init__" = some (some (.ref f))
  t : PySem.W.typeIn K (.ref f) = some (.type "function")
  no : PySem.W.findIn K (.ref C) fld = some none
  F : Fun K "__init__" qual st f fd
  b : Binds K fd ps []
  m : mg x = some (.ref C)
  xf : XfC K C
  te : PySem.W.exmOne K (.ref C) (.ref C) = some true
theorem Red.ev {fr : Fr} {ρ : EX} : Red fr (tE fr ρ) ρ := red_ev
theorem Room.vs {k : Nat} {A : Around} (r : Room k A) : A.units + 64 < cLine := by have := r.un; omega
section
variable {X : Cx} {fs : Fs} {i : Nat} {x : Str} {pos p : Pos} {e : Expr} {t : TE}
/-- a built-in's name for a class -/
theorem pe_tyN {x : Str} {T : String} (hg : Gl X x) (hm : X.mg x = none) (hv : bootBuiltins x = some (.type T)) (hn : x ≠ "__name__" := by decide) (hd : (x == ("__debug__" : Str)) = false := by decide) : PE X (.Name x pos) (tC (.ty T)) :=
  pe_bltn hg hm hv rfl hn hd
end
end VS

/-! VS21: several except clauses, each with its name; a def handed to a def that tells. -/
namespace VS
open PySem PySem.Spec L2 RZ
open PyProof.Rows hiding St

def asEnds (i : Nat) (D : Ends) : Ends := { nx := fun σ' H' => D.nx (σ'.set i none) H', rt := D.rt, bk := fun σ' H' => D.bk (σ'.set i none) H', ct := fun σ' H' => D.ct (σ'.set i none) H' }
def wMas (K : PySem.W.Frag) (Wout : WX) (i : Nat) (D : Ends) : List (Value × (Addr → Value → Option Addr → TS)) → WX
  | [] => Wout
  | (c, ts) :: r => fun cls d σ H => ∃ b, PySem.W.exmOne K cls c = some b ∧ (b = true → ∀ a, H a = none → ts a cls d (asEnds i D) (σ.set i (some (.ref a))) H) ∧ (b = false → wMas K Wout i D r cls d σ H)
inductive HdsAs (X : Cx) (n : Str) : List ExceptHandler → List (Value × (Addr → Value → Option Addr → TS)) → Prop
  | nil : HdsAs X n [] []
  | cons {x : Str} {c : Value} {ts : Addr → Value → Option Addr → TS} {b₀ : Stmt} {suite : List Stmt} {np pos' : Pos} {hds : List ExceptHandler} {l : List (Value × (Addr → Value → Option Addr → TS))} (hc : Names X x c)
      (hsu : ∀ (a : Addr) (oe : Obj) (cls : Value) (d : Option Addr) (pn : List (Addr × Obj)), Zc cls d oe → (∃ vs, oe.data = .fields vs) → PSs (X.suite a ((a, oe) :: pn)) (b₀ :: suite) (ts a cls d)) (r : HdsAs X n hds l) :
      HdsAs X n (.ExceptHandler (some (.Name x np)) (some n) (b₀ :: suite) pos' :: hds) ((c, ts) :: l)
section
variable {X : Cx} {n : Str} {i : Nat} {body : List Stmt} {h₀ : ExceptHandler} {hds : List ExceptHandler} {l : List (Value × (Addr → Value → Option Addr → TS))} {pos : Pos} {tb : WX → TS} {Wout : WX}
theorem ps_try_mas (hs : X.stack = X.env :: X.outer) (hf : X.env.frame = some X.env.locals) (hN : X.N.Nodup) (hi : X.N[i]? = some n) (hln : X.env.kindOf n = some .local) (tk : L2.Takes X Wout)
    (hb : ∀ (W : WX) (pn : List (Addr × Obj)) (xe : Value → Shared → Prop), L2.Takes (X.tr pn xe) W → PassesOwn (model X.prog X.w) X.A X.env xe → PSs (X.tr pn xe) body (tb W))
    (hh : HdsAs X n (h₀ :: hds) l) : PS X (.Try body (h₀ :: hds) [] [] pos) (fun D σ H => tb (wMas X.K Wout i D l) D σ H) := by
  refine ⟨fun pins s σ H D I h => ?_⟩
  have ok := I.ok
  have hfr : X.A.frames = some (X.env :: X.outer) := by rw [ok.frames, hs]
  have hloc : Loc X.env.scope n := .inl hln
  refine wpAny_Try_except ?_
  refine wpAny_mono ((hb (wMas X.K Wout i D l) (X.pn ++ pins) (fun e s₁ => wpAny (model X.prog X.w) X.A (noteFrame e X.env) (fun _ s₂ => wpAny (model X.prog X.w) X.A (setFlight e none) (fun _ s₃ =>
    wpAny (model X.prog X.w) X.A (handleBy e X.env (h₀ :: hds)) (SP X pins D) X.xe s₃) X.xe s₂) X.xe s₁) (fun u s' xx => ?_) PassesOwn.looking).run [] s σ H D (I.toTry _) h) (fun f s1 hsp => ?_) (fun e s1 he => he)
  · obtain ⟨a, B, sI, pins', σ', H', cls, d, rfl, J', nb, up, sky, na, os, ag, w⟩ := xx
    have J : Inv X pins σ' H' sI := J'.ofTry ok
    have sky' : Sky B (X.env :: X.outer) a (Zc cls d) X.env.locals s'.heap := by rw [← hs]; exact sky
    show wpAny (model X.prog X.w) X.A (noteFrame (.ref a) X.env) _ _ _
    refine Sky.land Zc.steady hfr hf sky' fun h3 fl3 up3 => ?_
    have J3 : Inv X pins σ' H' { s' with heap := h3 } := J.landed nb fl3.1 (up.trans up3) os ag
    obtain ⟨oe3, vs3, he3, hz3, hd3⟩ := fl3.there
    have notFr : ∀ {h : Heap} {o : Obj} {vs : Array Value}, h.FunFrames B (X.env :: X.outer) → h.get? a = some o → o.data = .fields vs → a ∉ frs (X.env :: X.outer) := fun {h o vs} ff e dd hm => by
      obtain ⟨_, o', e', hnf⟩ := ff.mem hm
      rw [e] at e'; cases e'
      exact hnf _ dd
    have nfr := notFr fl3.2.2.1 he3 hd3
    have nL : a ≠ X.env.locals := fun z => nfr (List.mem_filterMap.mpr ⟨X.env, List.mem_cons_self, by rw [hf, z]⟩)
    have nF : a ∉ X.fs := fun hm => by
      obtain ⟨e, he, q⟩ := List.mem_filterMap.mp hm
      exact nfr (List.mem_filterMap.mpr ⟨e, List.mem_cons_of_mem _ he, q⟩)
    have S3 := J3.suite he3 hd3 na nL nF
    have go : ∀ {hds' : List ExceptHandler} {l' : List (Value × (Addr → Value → Option Addr → TS))}, HdsAs X n hds' l' → wMas X.K Wout i D l' cls d σ' H' →
        wpAny (model X.prog X.w) X.A (handleBy (.ref a) X.env hds') (SP X pins D) X.xe { s' with heap := h3 } := by
      intro hds' l' hk
      induction hk with
      | nil =>
        intro w
        refine wpAny_handleBy_nil ?_
        obtain ⟨k1, k2, k3, oe, vs, T, oT, ts', he, hz, hd, h1, hr⟩ := id fl3
        unfold PySem.passOn
        refine wpAny_bind (wpAny_field he hd h1 ?_)
        rw [if_neg (show ¬ ((Value.ref T == Value.none) = true) from by simp)]
        have fin : wpAny (model X.prog X.w) X.A (setFlight (.ref a) X.env.frame) (fun _ s4 => wpAny (model X.prog X.w) X.A (throw (.ref a) : Sem Flow) (SP X pins D) X.xe s4) X.xe { s' with heap := h3 } := by
          rw [hf]
          refine HandSPX.setFlight_upZ fl3 fun h4 hh4 up4 => wpAny_throw (tk _ _ ?_)
          exact ⟨a, B, sI, pins, σ', H', cls, d, rfl, J, nb, (up.trans up3).trans up4, .inr (.inr (by rw [hs]; exact hh4)), na, os, ag, w⟩
        first
          | exact wpAny_bind (wpAny_pure (wpAny_bind fin))
          | exact wpAny_bind fin
      | @cons x c ts b₀ suite np pos' hds2 l2 hc hsu r ih =>
        intro w
        obtain ⟨b, hb1, hyes, hno⟩ := w
        refine wpAny_handleBy_cons (codeAny_handlers_test ?_) (by intro q; cases q)
        have LT : PySem.W.Looks (model X.prog X.w) h3 (typeOf (.ref a)) cls := fun A Q E s k q => wpAny_typeOf_ref (k _ _ he3) (by rw [hz3.1]; exact q)
        have LM := PySem.W.exm_one (M := model X.prog X.w) (J3.kIn) LT hb1
        have test : ∀ {Q : Value → Shared → Prop} {E : Value → Shared → Prop}, Q c { s' with heap := h3 } → wpAny (model X.prog X.w) (X.A.mark (some (.ref a))) (eval (.Name x np) X.env) Q E { s' with heap := h3 } := fun {Q E} q => by
          obtain ⟨hg, hdbg, hm | ⟨hm, hv, hnn⟩⟩ := hc
          · exact ld_glob (X := X.suite a ((a, oe3) :: (X.pn ++ pins))) S3 hg hm q hdbg
          · exact ld_blt (X := X.suite a ((a, oe3) :: (X.pn ++ pins))) S3 hg hm hv q hnn hdbg
        refine test (LM.here ?_)
        cases b with
        | true =>
          refine codeAny_handlers_suite_as ?_
          refine HandSPX.lands_againZ fl3 fun h4 fl4 up4 => ?_
          have J4 : Inv X pins σ' H' { s' with heap := h4 } := J.landed nb fl4.1 ((up.trans up3).trans up4) os ag
          obtain ⟨oe4, vs4, he4, hz4, hd4⟩ := fl4.there
          have S4 := J4.suite he4 hd4 na nL nF
          refine store_ok (X := X.suite a ((a, oe4) :: (X.pn ++ pins))) (v := .ref a) S4 hN hi hloc rfl (fun s5 S5 => ?_) (.inr hln)
          refine wpAny_mono ((hsu a oe4 cls d (X.pn ++ pins) hz4 ⟨_, hd4⟩).run [] s5 _ H' _ S5 (hyes rfl a na)) (fun f s6 hsp => ?_) (fun _ _ z => False.elim z)
          have end_ : ∀ {σ6 : St} {H6 : Hp} {Q : Shared → Prop}, Inv (X.suite a ((a, oe4) :: (X.pn ++ pins))) [] σ6 H6 s6 → (∀ s7, Inv X pins (σ6.set i none) H6 s7 → Q s7) →
              wpAny (model X.prog X.w) X.A (do bindName X.env n .none; unbindBehindTheSuite X.env n pos') (fun _ s7 => Q s7) X.xe s6 := fun {σ6 H6 Q} S6 hq => gone_ok (S6.unsuite ok) hN hi hln hq
          cases f with
          | next =>
            obtain ⟨σ6, H6, S6, q6⟩ := hsp
            exact end_ S6 fun s7 J7 => ⟨_, _, J7, q6⟩
          | brk =>
            obtain ⟨σ6, H6, S6, q6⟩ := hsp
            exact end_ S6 fun s7 J7 => ⟨_, _, J7, q6⟩
          | cont =>
            obtain ⟨σ6, H6, S6, q6⟩ := hsp
            exact end_ S6 fun s7 J7 => ⟨_, _, J7, q6⟩
          | ret u =>
            obtain ⟨v6, σ6, H6, S6, r6, q6⟩ := hsp
            exact end_ S6 fun s7 J7 => ⟨_, _, _, J7, r6, q6⟩
        | false =>
          show wpAny _ X.A (handleBy (.ref a) X.env hds2) _ _ _
          exact ih (hno rfl)
    exact go hh w
  · cases f with
    | next =>
      obtain ⟨σ', H', J', q⟩ := hsp
      exact wpAny_execs_nil ⟨σ', H', J'.ofTry ok, q⟩
    | brk =>
      obtain ⟨σ', H', J', q⟩ := hsp
      exact ⟨σ', H', J'.ofTry ok, q⟩
    | cont =>
      obtain ⟨σ', H', J', q⟩ := hsp
      exact ⟨σ', H', J'.ofTry ok, q⟩
    | ret u =>
      obtain ⟨v, σ', H', J', r, q⟩ := hsp
      exact ⟨v, σ', H', J'.ofTry ok, r, q⟩
end
/-! ### told -/
/-- what a catching def makes of an outcome: the error's word is the answer -/
def catchM (m : M D) : M D := fun g => match m g with
  | .exn c p g' => if c = 0 ∨ c = 1 then .ok p g' else .bad
  | o => o
def spTold (β : Option Addr) (ρ : FX) (fj : Addr) : Sp := fun vs H Q _ => ∃ v1 v2, vs = [.ref fj, v1, v2] ∧ ∃ F g ds, BagOk β F H g ∧ Rs H F β ds [v1, v2] ∧ match catchM (ρ ds) g with
  | .bad => False
  | .ok d g' => ∀ v H' F', Ext β F H F' H' → BagOk β F' H' g' → R H' F' β d v → Q v H'
  | .exn _ _ _ => False
end VS

/-! VS22: the call of a def that stands in a slot; told. -/
namespace VS
open PySem PySem.Spec L2 RZ
open PyProof.Rows hiding St

section
variable {X : Cx} {fr : Fr} {CX : CXT} {k i : Nat} {f : Addr} {fd : FuncData} {ps : List Str} {sp : Sp} {E : St → XK} {x : Str} {p pos : Pos} {e : Expr} {es : List Expr} {t : TA} {ρs : AX}
theorem pe_callLS (F : FnOk X.prog X.w X.K X.mg X.base CX k f fd ps sp) (hr : Room k X.A) (hN : X.N[i]? = some x) (hv : Vis X.env.scope x) (hk : PySem.W.keepIn X.K (.ref f) = true) (hb : Binds X.K fd ps []) (hx : ∀ σ, PassesAt CX X σ (E σ)) (ha : PA X (e :: es) t)
    (hdb : (x == ("__debug__" : Str)) = false := by decide) (hcd : (x == ("__classdict__" : Str)) = false := by decide)
    (he : starEach (e :: es) X.env = (false, eval e X.env) :: starEach es X.env := by rfl) (hpl : (backTo pos (starEach es X.env)).any (·.1) = false := by rfl) :
    PE X (.Call (.Name x p) (e :: es) [] pos) (fun σ H Q => σ[i]? = some (some (.ref f)) ∧ tCallS sp E t σ H Q) := by
  refine ⟨fun pins s σ H Q I h => ?_⟩
  obtain ⟨hs, ht⟩ := h
  refine wpAny_Call_Name_kw (thn ((pe_var (pos := p) hN hv hdb hcd).run pins s σ H (fun v H1 => v = .ref f ∧ H1 = H) I ⟨.ref f, hs, rfl, rfl⟩) fun u s1 ⟨v, H1, I1, r1, q1⟩ => ?_)
  obtain ⟨rfl, rfl⟩ := q1
  cases r1
  refine PySem.W.callWith_K (h₀ := X.base) I.ok.mod.kin hk (thn (ha.run pos pins s1 σ _ _ I1 ht) fun us s2 ⟨vs, H2, I2, r, q⟩ => ⟨I2.kIn, ?_⟩) he hpl
  exact run_fnS F hr hb (hx σ) I2 r q
/-- a def's name as a value -/
theorem pe_fnN (hg : Gl X x) (hm : X.mg x = some (.ref f)) (hdb : (x == ("__debug__" : Str)) = false := by decide) : PE X (.Name x pos) (tC (.ref f)) :=
  ⟨fun pins s σ H Q I h => ld_glob I hg hm ⟨.ref f, H, I, rfl, h⟩ hdb⟩
def toldE (ρ : FX) (ρs : AX) : EX := fun env => M.bnd (ρs env) fun ds => if ds.length = 2 then catchM (ρ ds) else M.bad
theorem ev_told {j : Str} {fj : Addr} {ρj : FX} {pj : Pos} (G : FnOk X.prog X.w X.K X.mg X.base (L2.CX X.prog X.w) k f fd ps (spTold fr.β ρj fj)) (hr : Room k X.A) (hg : Gl X x) (hm : X.mg x = some (.ref f)) (hk : PySem.W.keepIn X.K (.ref f) = true) (hb : Binds X.K fd ps [])
    (hgj : Gl X j) (hmj : X.mg j = some (.ref fj)) (ha : AV X fr es ρs)
    (hdj : (j == ("__debug__" : Str)) = false := by decide) (hdb : (x == ("__debug__" : Str)) = false := by decide) (he : starEach (.Name j pj :: es) X.env = (false, eval (.Name j pj) X.env) :: starEach es X.env := by rfl) (hpl : (backTo pos (starEach es X.env)).any (·.1) = false := by rfl) :
    EV X fr (.Call (.Name x p) (.Name j pj :: es) [] pos) (toldE ρj ρs) := by
  refine ev_of _ _ _ (pe_call G hr hg hm hk hb .nil passL (pa_cons (pe_fnN hgj hmj hdj) ha he) hdb he hpl) fun σ H Q env F g r hgt => ?_
  refine gotLE r hgt fun ds g1 H1 F1 vs ho ex er q hq => ?_
  show spTold fr.β ρj fj ((.ref fj :: vs) ++ []) H1 Q E0
  rw [List.append_nil]
  by_cases hl : ds.length = 2
  · rw [if_pos hl] at hq
    match vs, (show vs.length = 2 by rw [← q.length]; exact hl) with
    | [v1, v2], _ =>
      refine ⟨v1, v2, rfl, F1, g1, ds, er.bag, q, ?_⟩
      cases hc : catchM (ρj ds) g1 with
      | bad => rw [hc] at hq; exact hq
      | ok d g' => rw [hc] at hq; exact hq
      | exn c pp g' =>
        unfold catchM at hc
        split at hc
        · split at hc <;> cases hc
        · rename_i h2
          exact absurd hc (h2 _ _ _)
  · rw [if_neg hl] at hq
    exact (show False from hq).elim
end
end VS

/-! PU1: the functions of slots run on shapes: what simp wants. -/
namespace VS
open PySem PySem.Spec L2 RZ
open PyProof.Rows hiding St

section
variable {α β γ : Type}
@[simp] theorem bnd_ret (a : α) (f : α → M β) : M.bnd (M.ret a) f = f a := rfl
@[simp] theorem bnd_badM (f : α → M β) : M.bnd M.bad f = M.bad := rfl
@[simp] theorem bnd_assoc (m : M α) (f : α → M β) (h : β → M γ) : M.bnd (M.bnd m f) h = M.bnd m (fun a => M.bnd (f a) h) := M.assoc m f h
@[simp] theorem ofO_someM (a : α) : M.ofO (some a) = M.ret a := rfl
@[simp] theorem ofO_noneM : M.ofO (none : Option α) = M.bad := rfl
@[simp] theorem noX_ret (a : α) : noX (M.ret a) = M.ret a := rfl
@[simp] theorem bnd_ite (c : Prop) [Decidable c] (a b : M α) (f : α → M β) : M.bnd (if c then a else b) f = if c then M.bnd a f else M.bnd b f := by split <;> rfl
@[simp] theorem ofO_ite (c : Prop) [Decidable c] (a b : Option α) : M.ofO (if c then a else b) = if c then M.ofO a else M.ofO b := by split <;> rfl
theorem ret_app (a : α) (g : Bag) : M.ret a g = .ok a g := rfl
theorem bnd_app (m : M α) (f : α → M β) (g : Bag) : M.bnd m f g = match m g with
  | .bad => .bad
  | .ok a g' => f a g'
  | .exn c p g' => .exn c p g' := rfl
theorem bnd_okM {m : M α} {f : α → M β} {g g' : Bag} {a : α} (h : m g = .ok a g') : M.bnd m f g = f a g' := by rw [bnd_app, h]
theorem noX_okM {m : M α} {g g' : Bag} {a : α} (h : m g = .ok a g') : noX m g = .ok a g' := by unfold noX; rw [h]
end
section
variable {env : Slots} {g : Bag}
@[simp] theorem varE_eq (i : Nat) (env : Slots) : varE i env = M.ofO (env[i]?.bind id) := rfl
@[simp] theorem cE_eq (d : D) (env : Slots) : cE d env = M.ret d := rfl
@[simp] theorem bin2_eq (q : D → D → Option D) (a b : EX) (env : Slots) : bin2 q a b env = M.bnd (a env) fun x => M.bnd (b env) fun y => M.ofO (q x y) := rfl
@[simp] theorem un1_eq (q : D → Option D) (a : EX) (env : Slots) : un1 q a env = M.bnd (a env) fun x => M.ofO (q x) := rfl
@[simp] theorem nilA_eq (env : Slots) : nilA env = M.ret [] := rfl
@[simp] theorem consA_eq (a : EX) (b : AX) (env : Slots) : consA a b env = M.bnd (a env) fun x => M.bnd (b env) fun xs => M.ret (x :: xs) := rfl
@[simp] theorem tupE_eq (b : AX) (env : Slots) : tupE b env = M.bnd (b env) fun ds => M.ofO (if ds.length ≤ 1000 then some (.tup ds) else none) := rfl
@[simp] theorem lstE_eq (b : AX) (env : Slots) : lstE b env = M.bnd (b env) fun ds => M.ofO (if ds.length ≤ 1000 then some (.lst ds) else none) := rfl
@[simp] theorem callE_eq (q : List D → Option D) (b : AX) (env : Slots) : callE q b env = M.bnd (b env) fun ds => M.ofO (q ds) := rfl
@[simp] theorem fnE_eq (ρ : FX) (b : AX) (n : Nat) (env : Slots) : fnE ρ b n env = M.bnd (b env) fun ds => if ds.length = n then noX (ρ ds) else M.bad := rfl
@[simp] theorem fnXE_eq (ρ : FX) (b : AX) (n : Nat) (env : Slots) : fnXE ρ b n env = M.bnd (b env) fun ds => if ds.length = n then ρ ds else M.bad := rfl
@[simp] theorem toldE_eq (ρ : FX) (b : AX) (env : Slots) : toldE ρ b env = M.bnd (b env) fun ds => if ds.length = 2 then catchM (ρ ds) else M.bad := rfl
@[simp] theorem ifE_eq (τ : TX) (a b : EX) (env : Slots) : ifE τ a b env = M.bnd (τ env) fun c => if c then a env else b env := rfl
def andK (x : D) (m : M D) : M D := match x with
  | .bl true => m
  | .bl false => M.ret (.bl false)
  | _ => M.bad
def orK (x : D) (m : M D) : M D := match x with
  | .bl false => m
  | .bl true => M.ret (.bl true)
  | _ => M.bad
def notK (x : D) : M D := match x with
  | .bl k => M.ret (.bl (!k))
  | _ => M.bad
@[simp] theorem andE_eq (a b : EX) (env : Slots) : andE a b env = M.bnd (a env) fun x => andK x (b env) := rfl
@[simp] theorem orE_eq (a b : EX) (env : Slots) : orE a b env = M.bnd (a env) fun x => orK x (b env) := rfl
@[simp] theorem notE_eq (a : EX) (env : Slots) : notE a env = M.bnd (a env) notK := rfl
@[simp] theorem andK_bl (b : Bool) (m : M D) : andK (.bl b) m = if b = true then m else M.ret (.bl false) := by cases b <;> rfl
@[simp] theorem orK_bl (b : Bool) (m : M D) : orK (.bl b) m = if b = true then M.ret (.bl true) else m := by cases b <;> rfl
@[simp] theorem notK_bl (b : Bool) : notK (.bl b) = M.ret (.bl (!b)) := rfl
@[simp] theorem valT_eq (a : EX) (env : Slots) : valT a env = M.bnd (a env) fun d => M.ofO (asB d) := rfl
@[simp] theorem notT_eq (τ : TX) (env : Slots) : notT τ env = M.bnd (τ env) fun b => M.ret (!b) := rfl
@[simp] theorem andT_eq (τ υ : TX) (env : Slots) : andT τ υ env = M.bnd (τ env) fun b => if b then υ env else M.ret false := rfl
@[simp] theorem orT_eq (τ υ : TX) (env : Slots) : orT τ υ env = M.bnd (τ env) fun b => if b then M.ret true else υ env := rfl
@[simp] theorem yesT_eq (env : Slots) : yesT env = M.ret true := rfl
@[simp] theorem slE_eq (a : EX) (l h : PX) (env : Slots) : slE a l h env = M.bnd (a env) fun d => M.bnd (l env) fun i => M.bnd (h env) fun j => M.ofO (slD d i j) := rfl
@[simp] theorem slNE_eq (a : EX) (l h : PX) (env : Slots) : slNE a l h env = M.bnd (a env) fun d => M.bnd (l env) fun i => M.bnd (h env) fun j => M.ofO (slL d i j) := rfl
@[simp] theorem noP_eq (env : Slots) : noP env = M.ret none := rfl
@[simp] theorem someP_eq (a : EX) (env : Slots) : someP a env = M.bnd (a env) fun d => match d with
  | .int i => M.ret (some i)
  | _ => M.bad := by
  show (M.bnd (a env) fun d => _) = _
  congr 1
@[simp] theorem isaE_eq (T : String) (a : EX) (env : Slots) : isaE T a env = M.bnd (a env) fun d => M.ofO (isaD T d) := rfl
@[simp] theorem chE_eq (op op' : CmpOp) (a b c : EX) (env : Slots) : chE op op' a b c env = M.bnd (a env) fun x => M.bnd (b env) fun y => M.bnd (M.ofO (asI x)) fun i => M.bnd (M.ofO (asI y)) fun j =>
  if cmpI op i j = true then M.bnd (c env) fun z => M.bnd (M.ofO (asI z)) fun k => M.ret (.bl (cmpI op' j k)) else M.ret (.bl false) := rfl
@[simp] theorem seqI_eq (a : EX) (env : Slots) : seqI a env = M.bnd (a env) fun d => M.ofO (itemsD d) := rfl
@[simp] theorem rng1I_eq (b : AX) (env : Slots) : rng1I b env = M.bnd (b env) fun ds => M.ofO (match ds with
  | [.int j] => if -(2 ^ 62) ≤ j ∧ j < 2 ^ 62 then some (rngD 0 j.toNat) else none
  | _ => none) := rfl
@[simp] theorem zipI_eq (b : AX) (env : Slots) : zipI b env = M.bnd (b env) fun ds => M.ofO (match ds with
  | [.lst xs, .lst ys] => some (zipD xs ys)
  | [.tup xs, .tup ys] => some (zipD xs ys)
  | _ => none) := rfl
@[simp] theorem enumTI_eq (b : AX) (env : Slots) : enumTI b env = M.bnd (b env) fun ds => M.ofO (match ds with
  | [.tup xs] => some (enumD 0 xs)
  | _ => none) := rfl
@[simp] theorem keysI_eq (i : Nat) (env : Slots) : keysI i env = M.ofO (keysAt env i) := rfl
@[simp] theorem lcE_eq (ι : IX) (bd : BX) (τ : TX) (ρ : EX) (vs : List Nat) (env : Slots) : lcE ι bd τ ρ vs env = M.bnd (ι env) fun ds => if ds.length ≤ line then M.bnd (lcGo (wipeE env vs) bd τ ρ ds) fun ys => M.ret (.lst ys) else M.bad := rfl
/-! statements -/
@[simp] theorem nxS_eq (env : Slots) : nxS env = M.ret (.nx env) := rfl
@[simp] theorem seqS_eq (a b : SX) (env : Slots) : seqS a b env = M.bnd (a env) fun fl => match fl with
  | .nx env' => b env'
  | o => M.ret o := rfl
theorem seqS_of {a b : SX} {env env' : Slots} (h : a env = M.ret (.nx env')) : seqS a b env = b env' := by
  rw [seqS_eq, h]
  rfl
theorem seqS_ok {a b : SX} {env env' : Slots} {g g' : Bag} (h : a env g = .ok (.nx env') g') : seqS a b env g = b env' g' := by
  rw [seqS_eq, bnd_okM h]
@[simp] theorem ifS_eq (τ : TX) (a b : SX) (env : Slots) : ifS τ a b env = M.bnd (τ env) fun c => if c then a env else b env := rfl
@[simp] theorem retS_eq (a : EX) (env : Slots) : retS a env = M.bnd (a env) fun d => M.ret (.rt d) := rfl
@[simp] theorem retNS_eq (env : Slots) : retNS env = M.ret (.rt .non) := rfl
@[simp] theorem dropS_eq (a : EX) (env : Slots) : dropS a env = M.bnd (a env) fun _ => M.ret (.nx env) := rfl
@[simp] theorem hide_nil (env : Slots) : hide [] env = env := rfl
theorem hide_cons (v : Nat) (vs : List Nat) (env : Slots) : hide (v :: vs) env = (hide vs env).set v none := rfl
@[simp] theorem wipeE_nil (env : Slots) : wipeE env [] = env := rfl
@[simp] theorem wipeE_cons (v : Nat) (vs : List Nat) (env : Slots) : wipeE env (v :: vs) = (wipeE env vs).set v none := rfl
@[simp] theorem hide_cons' (v : Nat) (vs : List Nat) (env : Slots) : hide (v :: vs) env = (hide vs env).set v none := rfl
@[simp] theorem asgH_eq (O : List Nat) (i : Nat) (a : EX) (env : Slots) : asgH O i a env = M.bnd (a (hide O env)) fun d => M.ret (.nx (env.set i (some d))) := rfl
@[simp] theorem asgF_eq (i : Nat) (a : EX) (env : Slots) : asgF i a env = M.bnd (a env) fun d => if flat d then M.ret (.nx (env.set i (some d))) else M.bad := rfl
@[simp] theorem asgN_eq (i : Nat) (a : EX) (env : Slots) : asgN i a env = M.bnd (a env) fun d => if flatIn d then M.ret (.nx (env.set i (some d))) else M.bad := rfl
@[simp] theorem asgNH_eq (O : List Nat) (i : Nat) (a : EX) (env : Slots) : asgNH O i a env = M.bnd (a (hide O env)) fun d => M.ret (.nx (env.set i (some d))) := rfl
@[simp] theorem appF_eq (i : Nat) (a : EX) (env : Slots) : appF i a env = M.bnd (M.ofO (lstAt env i)) fun xs => M.bnd (a env) fun d => if flat d = true ∧ xs.length < line then M.ret (.nx (env.set i (some (.lst (xs ++ [d]))))) else M.bad := rfl
@[simp] theorem appH_eq (O : List Nat) (i : Nat) (a : EX) (env : Slots) : appH O i a env = M.bnd (M.ofO (lstAt env i)) fun xs => M.bnd (a (hide O env)) fun d => if xs.length < line then M.ret (.nx (env.set i (some (.lst (xs ++ [d]))))) else M.bad := rfl
@[simp] theorem stoH_eq (O : List Nat) (i : Nat) (k a : EX) (env : Slots) : stoH O i k a env = M.bnd (a (hide O env)) fun d => M.bnd (M.ofO (lstAt env i)) fun xs => M.bnd (k (hide O env)) fun k => M.bnd (M.ofO (ixO xs.length k)) fun j =>
  M.ret (.nx (env.set i (some (.lst (xs.set j d))))) := rfl
@[simp] theorem unpH_eq (O : List Nat) (bd : BX) (a : EX) (env : Slots) : unpH O bd a env = M.bnd (a (hide O env)) fun d => M.bnd (M.ofO (bd d)) fun l => if outO O l = true then M.ret (.nx (setsE env l)) else M.bad := rfl
@[simp] theorem unpF_eq (O : List Nat) (bd : BX) (a : EX) (env : Slots) : unpF O bd a env = M.bnd (a env) fun d => M.bnd (M.ofO (bd d)) fun l => if flatL l = true ∧ outO O l = true then M.ret (.nx (setsE env l)) else M.bad := rfl
@[simp] theorem forH_eq (O : List Nat) (ι : IX) (bd : BX) (ρ : SX) (env : Slots) : forH O ι bd ρ env = M.bnd (ι (hide O env)) fun ds => forGo O bd ρ ds env := rfl
@[simp] theorem raiseS_eq (c : Nat) (a : EX) (env : Slots) : raiseS c a env = M.bnd (a env) fun d g => .exn c d g := rfl
@[simp] theorem fnD_eq (N : List Str) (ρ : SX) (ds : List D) : fnD N ρ ds = M.bnd (ρ (startE N ds)) endM := rfl
@[simp] theorem endM_rt (d : D) : endM (.rt d) = M.ret d := rfl
@[simp] theorem endM_nx (e : Slots) : endM (.nx e) = M.ret .non := rfl
theorem fnD_ok {N : List Str} {ρ : SX} {ds : List D} {env : Slots} {g g' : Bag} {d : D} (he : startE N ds = env) (h : ρ env g = .ok (.rt d) g') : fnD N ρ ds g = .ok d g' := by
  subst he
  rw [fnD_eq, bnd_okM h]
  rfl
/-! one step, with what it comes to -/
theorem bin2_of {q : D → D → Option D} {a b : EX} {env : Slots} {x y z : D} (h1 : a env = M.ret x) (h2 : b env = M.ret y) (h3 : q x y = some z) : bin2 q a b env = M.ret z := by
  rw [bin2_eq, h1, bnd_ret, h2, bnd_ret, h3, ofO_someM]
theorem un1_of {q : D → Option D} {a : EX} {env : Slots} {x z : D} (h1 : a env = M.ret x) (h3 : q x = some z) : un1 q a env = M.ret z := by
  rw [un1_eq, h1, bnd_ret, h3, ofO_someM]
theorem call1_of {q : List D → Option D} {a : EX} {env : Slots} {x z : D} (h1 : a env = M.ret x) (h3 : q [x] = some z) : callE q (consA a nilA) env = M.ret z := by
  rw [callE_eq, consA_eq, h1, bnd_ret, nilA_eq, bnd_ret, bnd_ret, h3, ofO_someM]
theorem asgH_of {O : List Nat} {i : Nat} {a : EX} {env : Slots} {d : D} (h : a (hide O env) = M.ret d) : asgH O i a env = M.ret (.nx (env.set i (some d))) := by
  rw [asgH_eq, h, bnd_ret]
theorem asgNH_of {O : List Nat} {i : Nat} {a : EX} {env : Slots} {d : D} (h : a (hide O env) = M.ret d) : asgNH O i a env = M.ret (.nx (env.set i (some d))) := by
  rw [asgNH_eq, h, bnd_ret]
/-! targets -/
@[simp] theorem nameB_eq (i : Nat) (d : D) : nameB i d = some [(i, d)] := rfl
@[simp] theorem nilB_eq : nilB [] = some [] := rfl
@[simp] theorem consB_eq (b : BX) (bs : BXs) (d : D) (r : List D) : consB b bs (d :: r) = (b d).bind fun l => (bs r).map fun m => l ++ m := rfl
@[simp] theorem tupB_eq (n : Nat) (bs : BXs) (xs : List D) : tupB n bs (.tup xs) = if xs.length = n then bs xs else none := rfl
@[simp] theorem setsE_nil (env : Slots) : setsE env [] = env := rfl
@[simp] theorem setsE_cons (env : Slots) (p : Nat × D) (l : List (Nat × D)) : setsE env (p :: l) = setsE (env.set p.1 (some p.2)) l := rfl
@[simp] theorem outO_nilO (l : List (Nat × D)) : outO [] l = true := by
  unfold outO
  exact List.all_eq_true.mpr fun p _ => by simp
@[simp] theorem outO_nilL (O : List Nat) : outO O [] = true := rfl
@[simp] theorem outO_cons (O : List Nat) (i : Nat) (d : D) (l : List (Nat × D)) : outO O ((i, d) :: l) = (decide (i ∉ O) && outO O l) := rfl
@[simp] theorem flatL_nil : flatL [] = true := rfl
@[simp] theorem flatL_cons (i : Nat) (d : D) (l : List (Nat × D)) : flatL ((i, d) :: l) = (flat d && flatL l) := rfl
/-! operations -/
@[simp] theorem addD_ii (i j : Int) : addD (.int i) (.int j) = some (.int (i + j)) := rfl
@[simp] theorem subD_ii (i j : Int) : subD (.int i) (.int j) = some (.int (i - j)) := rfl
@[simp] theorem negD_i (i : Int) : negD (.int i) = some (.int (-i)) := rfl
@[simp] theorem ltD_ii (i j : Int) : ltD (.int i) (.int j) = some (.bl (decide (i < j))) := rfl
@[simp] theorem leD_ii (i j : Int) : leD (.int i) (.int j) = some (.bl (decide (i ≤ j))) := rfl
@[simp] theorem gtD_ii (i j : Int) : gtD (.int i) (.int j) = some (.bl (decide (j < i))) := rfl
@[simp] theorem geD_ii (i j : Int) : geD (.int i) (.int j) = some (.bl (decide (j ≤ i))) := rfl
@[simp] theorem asB_bl (b : Bool) : asB (.bl b) = some b := rfl
@[simp] theorem asI_int (i : Int) : asI (.int i) = some i := rfl
@[simp] theorem itemsD_lst (xs : List D) : itemsD (.lst xs) = some xs := rfl
@[simp] theorem itemsD_tup (xs : List D) : itemsD (.tup xs) = some xs := rfl
@[simp] theorem isNonD_non : isNonD .non .non = some (.bl true) := rfl
@[simp] theorem isNonD_int (i : Int) : isNonD (.int i) .non = some (.bl false) := rfl
@[simp] theorem notNonD_non : notNonD .non .non = some (.bl false) := rfl
@[simp] theorem notNonD_int (i : Int) : notNonD (.int i) .non = some (.bl true) := rfl
@[simp] theorem lenL_tup (xs : List D) : lenL [.tup xs] = some (.int xs.length) := rfl
@[simp] theorem lenL_lst (xs : List D) : lenL [.lst xs] = some (.int xs.length) := rfl
@[simp] theorem intL_int (i : Int) : intL [.int i] = some (.int i) := rfl
@[simp] theorem intL_bl (b : Bool) : intL [.bl b] = some (.int (if b then 1 else 0)) := rfl
@[simp] theorem maxL_ii (i j : Int) : maxL [.int i, .int j] = some (.int (max i j)) := rfl
@[simp] theorem minL_ii (i j : Int) : minL [.int i, .int j] = some (.int (min i j)) := rfl
@[simp] theorem tupL_lst (xs : List D) : tupL [.lst xs] = some (.tup xs) := rfl
@[simp] theorem listL_tup (xs : List D) : listL [.tup xs] = some (.lst xs) := rfl
@[simp] theorem allL_map (bs : List Bool) : allL [.lst (bs.map D.bl)] = some (.bl (bs.all id)) := by
  show (blsOf (bs.map D.bl)).map _ = _
  rw [blsOf_map]
  rfl
@[simp] theorem sumL_map (ns : List Int) : sumL [.lst (ns.map D.int)] = some (.int ns.sum) := by
  show (intsOf (ns.map D.int)).map _ = _
  rw [intsOf_map]
  rfl
@[simp] theorem lstAt_eq (env : Slots) (i : Nat) (xs : List D) (h : env[i]? = some (some (.lst xs))) : lstAt env i = some xs := by
  unfold lstAt
  rw [h]
@[simp] theorem isaD_non (T : String) : isaD T .non = some (.bl (isaB T .non)) := rfl
@[simp] theorem isaD_bl (T : String) (b : Bool) : isaD T (.bl b) = some (.bl (isaB T (.bl b))) := rfl
@[simp] theorem isaD_int (T : String) (b : Int) : isaD T (.int b) = some (.bl (isaB T (.int b))) := rfl
@[simp] theorem isaD_str (T : String) (b : Str) : isaD T (.str b) = some (.bl (isaB T (.str b))) := rfl
@[simp] theorem isaD_tup (T : String) (b : List D) : isaD T (.tup b) = some (.bl (isaB T (.tup b))) := rfl
@[simp] theorem isaD_lst (T : String) (b : List D) : isaD T (.lst b) = some (.bl (isaB T (.lst b))) := rfl
@[simp] theorem isa_int_int (i : Int) : isaB "int" (.int i) = true := by simp [isaB, tyN]
@[simp] theorem isa_int_bl (i : Bool) : isaB "int" (.bl i) = true := by simp [isaB, tyN]
@[simp] theorem isa_int_non : isaB "int" .non = false := by simp [isaB, tyN]
@[simp] theorem isa_bool_int (i : Int) : isaB "bool" (.int i) = false := by simp [isaB, tyN]
@[simp] theorem isa_bool_bl (i : Bool) : isaB "bool" (.bl i) = true := by simp [isaB, tyN]
@[simp] theorem isa_tuple_tup (i : List D) : isaB "tuple" (.tup i) = true := by simp [isaB, tyN]
@[simp] theorem isa_tuple_non : isaB "tuple" .non = false := by simp [isaB, tyN]
@[simp] theorem isa_tuple_lst (i : List D) : isaB "tuple" (.lst i) = false := by simp [isaB, tyN]
@[simp] theorem isa_tuple_int (i : Int) : isaB "tuple" (.int i) = false := by simp [isaB, tyN]
/-! subscripts -/
@[simp] theorem ixD_tup (xs : List D) (i : Int) : ixD (.tup xs) (.int i) = atI xs i := rfl
@[simp] theorem ixD_lst (xs : List D) (i : Int) : ixD (.lst xs) (.int i) = atI xs i := rfl
theorem atI_nat {α : Type} (xs : List α) (i : Nat) : atI xs (i : Int) = xs[i]? := by
  unfold atI ixN
  rw [if_pos (Int.natCast_nonneg i)]
  by_cases h : i < xs.length
  · rw [if_pos (by exact_mod_cast h)]
    rfl
  · rw [if_neg (by exact_mod_cast h), List.getElem?_eq_none (Nat.le_of_not_lt h)]
    rfl
@[simp] theorem atI_0 {α : Type} (x : α) (xs : List α) : atI (x :: xs) 0 = some x := atI_nat (x :: xs) 0
@[simp] theorem atI_1 {α : Type} (x y : α) (xs : List α) : atI (x :: y :: xs) 1 = some y := atI_nat (x :: y :: xs) 1
end

/-! ### == of data without truths -/
mutual
def pl : D → Bool
  | .non => true
  | .int _ => true
  | .str _ => true
  | .tup xs => pls xs
  | .lst xs => pls xs
  | _ => false
def pls : List D → Bool
  | [] => true
  | d :: r => pl d && pls r
end
mutual
theorem pl_plain : ∀ d : D, pl d = true → (toPy d).plain = true
  | .non, _ => rfl
  | .int _, _ => rfl
  | .str _, _ => rfl
  | .bl _, h => by simp [pl] at h
  | .tup xs, h => pls_plain xs (by simpa [pl] using h)
  | .lst xs, h => pls_plain xs (by simpa [pl] using h)
  | .dK _ _, h => by simp [pl] at h
  | .dT _ _, h => by simp [pl] at h
  | .bag, h => by simp [pl] at h
theorem pls_plain : ∀ d : List D, pls d = true → PyData.plainAll (toPys d) = true
  | [], _ => rfl
  | d :: r, h => by
    simp only [pls, Bool.and_eq_true] at h
    simp only [toPys, PyData.plainAll, Bool.and_eq_true]
    exact ⟨pl_plain d h.1, pls_plain r h.2⟩
end
mutual
theorem eqv_pl : ∀ d e : D, pl d = true → pl e = true → (PyData.eqv (toPy d) (toPy e) = true ↔ d = e)
  | .non, e, _, h => by cases e <;> simp_all [pl, toPy, PyData.eqv]
  | .int i, e, _, h => by cases e <;> simp_all [pl, toPy, PyData.eqv]
  | .str i, e, _, h => by cases e <;> simp_all [pl, toPy, PyData.eqv]
  | .bl _, _, h, _ => by simp [pl] at h
  | .tup xs, e, h1, h => by
    cases e with
    | tup ys => simpa [toPy, PyData.eqv] using eqvs_pl xs ys (by simpa [pl] using h1) (by simpa [pl] using h)
    | _ => simp_all [pl, toPy, PyData.eqv]
  | .lst xs, e, h1, h => by
    cases e with
    | lst ys => simpa [toPy, PyData.eqv] using eqvs_pl xs ys (by simpa [pl] using h1) (by simpa [pl] using h)
    | _ => simp_all [pl, toPy, PyData.eqv]
  | .dK _ _, _, h, _ => by simp [pl] at h
  | .dT _ _, _, h, _ => by simp [pl] at h
  | .bag, _, h, _ => by simp [pl] at h
theorem eqvs_pl : ∀ d e : List D, pls d = true → pls e = true → (PyData.eqvAll (toPys d) (toPys e) = true ↔ d = e)
  | [], e, _, _ => by cases e <;> simp [toPys, PyData.eqvAll]
  | x :: r, e, h1, h2 => by
    cases e with
    | nil => simp [toPys, PyData.eqvAll]
    | cons y s =>
      simp only [pls, Bool.and_eq_true] at h1 h2
      simp only [toPys, PyData.eqvAll, Bool.and_eq_true, List.cons.injEq]
      rw [eqv_pl x y h1.1 h2.1, eqvs_pl r s h1.2 h2.2]
end
theorem eqVD_pl {d e : D} (h1 : pl d = true) (h2 : pl e = true) (h3 : (toPy e).depth ≤ 60) (b : Bool) (hb : b = true ↔ d = e) : eqVD d e = some (.bl b) := by
  unfold eqVD eqD
  rw [if_pos ⟨pl_plain d h1, pl_plain e h2, Nat.le_trans (Nat.min_le_right _ _) h3⟩]
  have : PyData.eqv (toPy d) (toPy e) = b := by
    rw [Bool.eq_iff_iff, eqv_pl d e h1 h2, hb]
  rw [this]
  rfl
theorem neVD_pl {d e : D} (h1 : pl d = true) (h2 : pl e = true) (h3 : (toPy e).depth ≤ 60) (b : Bool) (hb : b = true ↔ d = e) : neVD d e = some (.bl (!b)) := by
  unfold neVD eqD
  rw [if_pos ⟨pl_plain d h1, pl_plain e h2, Nat.le_trans (Nat.min_le_right _ _) h3⟩]
  have : PyData.eqv (toPy d) (toPy e) = b := by
    rw [Bool.eq_iff_iff, eqv_pl d e h1 h2, hb]
  rw [this]
  rfl
@[simp] theorem eqVD_ii (i j : Int) : eqVD (.int i) (.int j) = some (.bl (decide (i = j))) := eqVD_pl rfl rfl (Nat.zero_le _) _ (by simp)
@[simp] theorem neVD_ii (i j : Int) : neVD (.int i) (.int j) = some (.bl (!decide (i = j))) := neVD_pl rfl rfl (Nat.zero_le _) _ (by simp)
@[simp] theorem neVD_ss (i j : Str) : neVD (.str i) (.str j) = some (.bl (!decide (i = j))) := neVD_pl rfl rfl (Nat.zero_le _) _ (by simp)
@[simp] theorem neVD_ns (j : Str) : neVD .non (.str j) = some (.bl true) := neVD_pl rfl rfl (Nat.zero_le _) false (by simp)
@[simp] theorem neVD_sn (j : Str) : neVD (.str j) .non = some (.bl true) := neVD_pl rfl rfl (Nat.zero_le _) false (by simp)
@[simp] theorem neVD_nn : neVD .non .non = some (.bl false) := neVD_pl rfl rfl (Nat.zero_le _) true (by simp)
/-- xs == [], of plain items -/
theorem eqVD_nil {xs : List D} (h : PyData.plainAll (toPys xs) = true) : eqVD (.lst xs) (.lst []) = some (.bl (decide (xs = []))) := by
  unfold eqVD eqD
  rw [if_pos ⟨h, rfl, Nat.le_trans (Nat.min_le_right _ _) (by decide)⟩]
  cases xs <;> rfl
theorem neVD_nil {xs : List D} (h : PyData.plainAll (toPys xs) = true) : neVD (.lst xs) (.lst []) = some (.bl (!decide (xs = []))) := by
  unfold neVD eqD
  rw [if_pos ⟨h, rfl, Nat.le_trans (Nat.min_le_right _ _) (by decide)⟩]
  cases xs <;> rfl

/-! ### comprehensions -/
theorem lcGo_map {α : Type} {w : Slots} {bd : BX} {τ : TX} {ρ : EX} (enc : α → D) (p : α → Bool) (f : α → D) : ∀ xs : List α, (∀ x ∈ xs, ∃ l, bd (enc x) = some l ∧ τ (setsE w l) = M.ret (p x) ∧ (p x = true → ρ (setsE w l) = M.ret (f x))) →
    lcGo w bd τ ρ (xs.map enc) = M.ret ((xs.filter p).map f)
  | [], _ => rfl
  | x :: xs, h => by
    obtain ⟨l, h1, h2, h3⟩ := h x List.mem_cons_self
    have ih := lcGo_map enc p f xs fun y hy => h y (List.mem_cons_of_mem _ hy)
    rw [List.map_cons]
    unfold lcGo
    rw [h1]
    simp only [h2, noX_ret, bnd_ret, ih]
    cases hp : p x with
    | true => simp [hp, h3 hp]
    | false => simp [hp]
theorem lcGo_all {α : Type} {w : Slots} {bd : BX} {ρ : EX} (enc : α → D) (f : α → D) (xs : List α) (h : ∀ x ∈ xs, ∃ l, bd (enc x) = some l ∧ ρ (setsE w l) = M.ret (f x)) :
    lcGo w bd yesT ρ (xs.map enc) = M.ret (xs.map f) := by
  have q := lcGo_map (w := w) (bd := bd) (τ := yesT) (ρ := ρ) enc (fun _ => true) f xs fun x hx => by
    obtain ⟨l, h1, h2⟩ := h x hx
    exact ⟨l, h1, rfl, fun _ => h2⟩
  rw [q, List.filter_eq_self.mpr (by simp)]
theorem lc_run {α : Type} {ι : IX} {bd : BX} {τ : TX} {ρ : EX} {vs : List Nat} {env : Slots} (enc : α → D) (p : α → Bool) (f : α → D) (xs : List α) (hι : ι env = M.ret (xs.map enc)) (hl : xs.length ≤ line)
    (h : ∀ x ∈ xs, ∃ l, bd (enc x) = some l ∧ τ (setsE (wipeE env vs) l) = M.ret (p x) ∧ (p x = true → ρ (setsE (wipeE env vs) l) = M.ret (f x))) : lcE ι bd τ ρ vs env = M.ret (.lst ((xs.filter p).map f)) := by
  rw [lcE_eq, hι, bnd_ret, if_pos (by rw [List.length_map]; exact hl), lcGo_map enc p f xs h]
  rfl
theorem lc_runA {α : Type} {ι : IX} {bd : BX} {ρ : EX} {vs : List Nat} {env : Slots} (enc : α → D) (f : α → D) (xs : List α) (hι : ι env = M.ret (xs.map enc)) (hl : xs.length ≤ line)
    (h : ∀ x ∈ xs, ∃ l, bd (enc x) = some l ∧ ρ (setsE (wipeE env vs) l) = M.ret (f x)) : lcE ι bd yesT ρ vs env = M.ret (.lst (xs.map f)) := by
  rw [lcE_eq, hι, bnd_ret, if_pos (by rw [List.length_map]; exact hl), lcGo_all enc f xs h]
  rfl
/-! ### for -/
theorem for_run_on {O : List Nat} {bd : BX} {ρ : SX} (Pv : Nat → Slots → Bag → Prop) (es : List D) : ∀ (ds : List D) (k : Nat) (env : Slots) (g : Bag), Pv k env g →
    (∀ i d env g, ds[i]? = some d → Pv (k + i) env g → ∃ l, bd d = some l ∧ outO O l = true ∧ ∃ env' g', (ρ (setsE env l) g = .ok (.nx env') g' ∨ ρ (setsE env l) g = .ok (.ct env') g') ∧ Pv (k + i + 1) env' g') →
    ∃ env' g', forGo O bd ρ (ds ++ es) env g = forGo O bd ρ es env' g' ∧ Pv (k + ds.length) env' g'
  | [], k, env, g, h0, _ => ⟨env, g, rfl, h0⟩
  | d :: ds, k, env, g, h0, hs => by
    obtain ⟨l, h1, h2, env', g', h3, h4⟩ := hs 0 d env g rfl h0
    have ih := for_run_on Pv es ds (k + 1) env' g' h4 fun i d env g e p => by
      have := hs (i + 1) d env g e (by rw [show k + (i + 1) = k + 1 + i by omega]; exact p)
      rw [show k + 1 + i + 1 = k + (i + 1) + 1 by omega]
      exact this
    obtain ⟨e2, g2, h5, h6⟩ := ih
    refine ⟨e2, g2, ?_, by rw [List.length_cons, show k + (ds.length + 1) = k + 1 + ds.length by omega]; exact h6⟩
    rw [List.cons_append]
    rw [show forGo O bd ρ (d :: (ds ++ es)) = fun env => M.bnd (M.ofO (bd d)) fun l => if outO O l = true then M.bnd (ρ (setsE env l)) (goS (forGo O bd ρ (ds ++ es))) else M.bad from rfl]
    rw [h1]
    simp only [ofO_someM, bnd_ret, h2, if_true]
    rcases h3 with h3 | h3
    · rw [bnd_okM h3]; exact h5
    · rw [bnd_okM h3]; exact h5
theorem for_run {O : List Nat} {bd : BX} {ρ : SX} (Pv : Nat → Slots → Bag → Prop) (ds : List D) (env : Slots) (g : Bag) (h0 : Pv 0 env g)
    (hs : ∀ i d env g, ds[i]? = some d → Pv i env g → ∃ l, bd d = some l ∧ outO O l = true ∧ ∃ env' g', (ρ (setsE env l) g = .ok (.nx env') g' ∨ ρ (setsE env l) g = .ok (.ct env') g') ∧ Pv (i + 1) env' g') :
    ∃ env' g', forGo O bd ρ ds env g = .ok (.nx env') g' ∧ Pv ds.length env' g' := by
  obtain ⟨e, g', h1, h2⟩ := for_run_on Pv [] ds 0 env g h0 fun i d env g e p => by
    have := hs i d env g e (by rw [Nat.zero_add] at p; exact p)
    rw [Nat.zero_add]
    exact this
  rw [List.append_nil] at h1
  rw [Nat.zero_add] at h2
  exact ⟨e, g', h1, h2⟩
/-- a for that leaves before its end -/
theorem for_until {O : List Nat} {bd : BX} {ρ : SX} (W : Nat → Slots → Bag → Prop) (Rp : D → Bag → Prop) (h0 : ∀ env g, ¬ W 0 env g)
    (hs : ∀ d m env g, W (m + 1) env g → ∃ l, bd d = some l ∧ outO O l = true ∧ ((∃ r g', ρ (setsE env l) g = .ok (.rt r) g' ∧ Rp r g') ∨ ∃ env' g', ρ (setsE env l) g = .ok (.nx env') g' ∧ W m env' g')) :
    ∀ (ds : List D) (env : Slots) (g : Bag), W ds.length env g → ∃ r g', forGo O bd ρ ds env g = .ok (.rt r) g' ∧ Rp r g'
  | [], env, g, w => absurd w (h0 env g)
  | d :: ds, env, g, w => by
    obtain ⟨l, h1, h2, h3⟩ := hs d ds.length env g w
    rw [show forGo O bd ρ (d :: ds) = fun env => M.bnd (M.ofO (bd d)) fun l => if outO O l = true then M.bnd (ρ (setsE env l)) (goS (forGo O bd ρ ds)) else M.bad from rfl]
    rw [h1]
    simp only [ofO_someM, bnd_ret, h2, if_true]
    rcases h3 with ⟨r, g', h3, h4⟩ | ⟨env', g', h3, h4⟩
    · exact ⟨r, g', by rw [bnd_okM h3]; rfl, h4⟩
    · obtain ⟨r, g2, h5, h6⟩ := for_until W Rp h0 hs ds env' g' h4
      exact ⟨r, g2, by rw [bnd_okM h3]; exact h5, h6⟩
@[simp] theorem rngD_length (lo : Int) (n : Nat) : (rngD lo n).length = n := by
  unfold rngD
  rw [List.length_map, List.length_range]
theorem rngD_get (n i : Nat) : (rngD 0 n)[i]? = if i < n then some (D.int i) else none := by
  unfold rngD
  rw [List.getElem?_map]
  by_cases h : i < n
  · rw [if_pos h, List.getElem?_range h]
    show some (D.int (0 + (i : Int))) = _
    rw [Int.zero_add]
  · rw [if_neg h, List.getElem?_eq_none (by rw [List.length_range]; omega)]
    rfl
theorem rng1_of {a : EX} {env : Slots} {k : Int} (h : a env = M.ret (.int k)) (h0 : 0 ≤ k) (h1 : k ≤ 1000000) : rng1I (consA a nilA) env = M.ret (rngD 0 k.toNat) := by
  rw [rng1I_eq, consA_eq, h, bnd_ret, nilA_eq, bnd_ret, bnd_ret]
  simp only
  rw [if_pos (by omega)]
  rfl
theorem rng1_nat {a : EX} {env : Slots} {k : Nat} (h : a env = M.ret (.int k)) (h1 : k ≤ 1000000) : rng1I (consA a nilA) env = M.ret (rngD 0 k) := by
  rw [rng1_of h (by omega) (by omega), Int.toNat_natCast]
/-! ### while -/
theorem while_run {τ : TX} {ρ : SX} (W : Nat → Slots → Bag → Prop) (E : Slots → Bag → Prop)
    (h : ∀ m env g, W m env g → ∃ b g1, τ env g = .ok b g1 ∧ (b = true → ∃ env' g' m', (ρ env g1 = .ok (.nx env') g' ∨ ρ env g1 = .ok (.ct env') g') ∧ m' < m ∧ W m' env' g') ∧ (b = false → E env g1)) :
    ∀ m env g, W m env g → ∃ env' g', whileS τ ρ env g = .ok (.nx env') g' ∧ E env' g' := by
  have key : ∀ m env g, W m env g → ∃ n env' g', whileGo τ ρ n env g = .ok (.nx env') g' ∧ E env' g' := by
    intro m
    induction m using Nat.strongRecOn with
    | ind m ih =>
      intro env g w
      obtain ⟨b, g1, h1, ht, hf⟩ := h m env g w
      cases b with
      | false =>
        refine ⟨1, env, g1, ?_, hf rfl⟩
        unfold whileGo
        rw [bnd_okM h1]
        rfl
      | true =>
        obtain ⟨env', g', m', h2, hm, w'⟩ := ht rfl
        obtain ⟨n, e2, g2, h3, h4⟩ := ih m' hm env' g' w'
        refine ⟨n + 1, e2, g2, ?_, h4⟩
        unfold whileGo
        rw [bnd_okM h1]
        simp only [if_true]
        rcases h2 with h2 | h2
        · rw [bnd_okM h2]; exact h3
        · rw [bnd_okM h2]; exact h3
  intro m env g w
  obtain ⟨n, env', g', h1, h2⟩ := key m env g w
  exact ⟨env', g', by rw [whileS_of (n := n) (by rw [h1]; exact fun z => by cases z), h1], h2⟩
/-! ### slices, pairs -/
theorem cutD_tail (xs : List D) : cutD xs (some 1) none = xs.drop 1 := by
  unfold cutD HT.sIx
  cases xs with
  | nil => rfl
  | cons x r => simp
@[simp] theorem slD_tail (xs : List D) : slD (.tup xs) (some 1) none = some (.tup xs.tail) := by
  show some (D.tup (cutD xs (some 1) none)) = _
  rw [cutD_tail, List.drop_one]
theorem zipD_map {α : Type} (e f : α → D) : ∀ (xs ys : List α), zipD (xs.map e) (ys.map f) = (xs.zip ys).map fun p => .tup [e p.1, f p.2]
  | [], _ => by simp [zipD]
  | _ :: _, [] => by simp [zipD]
  | x :: xs, y :: ys => by simp [zipD, zipD_map e f xs ys]
theorem zipD_map2 {α β : Type} (e : α → D) (f : β → D) : ∀ (xs : List α) (ys : List β), zipD (xs.map e) (ys.map f) = (xs.zip ys).map fun p => .tup [e p.1, f p.2]
  | [], _ => by simp [zipD]
  | _ :: _, [] => by simp [zipD]
  | x :: xs, y :: ys => by simp [zipD, zipD_map2 e f xs ys]
end VS

/-! PU2: dicts of pairs, tests of members: plain. -/
namespace VS
open PySem PySem.Spec L2 RZ
open PyProof.Rows hiding St

theorem hasX_ints (ks : List Int) (i : Int) : hasX (ks.map (Sum.inl (β := Str))) (.inl i) = decide (i ∈ ks) := by
  unfold hasX
  rw [Bool.eq_iff_iff, List.any_eq_true, decide_eq_true_eq]
  constructor
  · rintro ⟨k, hk, e⟩
    obtain ⟨j, hj, rfl⟩ := List.mem_map.mp hk
    rw [decide_eq_true_eq] at e
    cases e
    exact hj
  · intro h
    exact ⟨.inl i, List.mem_map.mpr ⟨i, h, rfl⟩, by simp⟩
theorem putXs_len {κ : Type} [DecidableEq κ] (k : κ) (x : D) : ∀ (ks : List κ) (xs : List D), (putXs ks xs k x).length = xs.length
  | [], xs => by cases xs <;> rfl
  | _ :: _, [] => rfl
  | _ :: ks, _ :: xs => by simp [putXs, putXs_len k x ks xs]
theorem putXs_mem {κ : Type} [DecidableEq κ] {k : κ} {x y : D} : ∀ {ks : List κ} {xs : List D}, y ∈ putXs ks xs k x → y ∈ xs ∨ y = x
  | [], xs, h => by cases xs <;> exact .inl h
  | _ :: _, [], h => .inl h
  | k' :: ks, z :: xs, h => by
    unfold putXs at h
    rcases List.mem_cons.mp h with h | h
    · split at h
      · exact .inr h
      · exact .inl (by rw [h]; exact List.mem_cons_self)
    · rcases putXs_mem h with h | h
      · exact .inl (List.mem_cons_of_mem _ h)
      · exact .inr h
/-- a dict of pairs with whole keys -/
theorem merge_ints (P : D → Prop) : ∀ (ps : List (Int × D)) (ks : List Int) (xs : List D), ks.Nodup → ks.length = xs.length → (∀ x ∈ xs, P x) → (∀ p ∈ ps, P p.2) →
    ∃ (ks' : List Int) (xs' : List D), mergeD (ps.map fun p => (Sum.inl p.1, p.2)) (ks.map Sum.inl, xs) = (ks'.map Sum.inl, xs') ∧ ks'.Nodup ∧ ks'.length = xs'.length ∧ (∀ i, i ∈ ks' ↔ i ∈ ks ∨ ∃ p ∈ ps, p.1 = i) ∧ ks'.length ≤ ks.length + ps.length ∧ ∀ x ∈ xs', P x
  | [], ks, xs, nd, hl, hx, _ => ⟨ks, xs, rfl, nd, hl, fun i => by simp, Nat.le_refl _, hx⟩
  | p :: ps, ks, xs, nd, hl, hx, hp => by
    rw [List.map_cons]
    show ∃ (ks' : List Int) (xs' : List D), mergeD _ (putX _ _ _ _) = _ ∧ _
    unfold putX
    by_cases h : p.1 ∈ ks
    · rw [if_pos (by rw [hasX_ints]; simpa using h)]
      obtain ⟨ks', xs', h1, h2, h3, h4, h5, h6⟩ := merge_ints P ps ks (putXs (ks.map (Sum.inl (β := Str))) xs (Sum.inl p.1) p.2) nd (by rw [putXs_len]; exact hl) (fun y hy => by
        rcases putXs_mem hy with hy | rfl
        · exact hx y hy
        · exact hp p List.mem_cons_self) fun q hq => hp q (List.mem_cons_of_mem _ hq)
      refine ⟨ks', xs', h1, h2, h3, fun i => ?_, by rw [List.length_cons]; omega, h6⟩
      rw [h4]
      constructor
      · rintro (h | ⟨q, hq, e⟩)
        · exact .inl h
        · exact .inr ⟨q, List.mem_cons_of_mem _ hq, e⟩
      · rintro (h' | ⟨q, hq, e⟩)
        · exact .inl h'
        · rcases List.mem_cons.mp hq with rfl | hq
          · exact .inl (by rw [← e]; exact h)
          · exact .inr ⟨q, hq, e⟩
    · rw [if_neg (by rw [hasX_ints]; simpa using h)]
      obtain ⟨ks', xs', h1, h2, h3, h4, h5, h6⟩ := merge_ints P ps (ks ++ [p.1]) (xs ++ [p.2]) (by
        rw [List.nodup_append]
        exact ⟨nd, by simp, fun a ha b hb => by rw [List.mem_singleton.mp hb]; exact fun z => h (z ▸ ha)⟩) (by simp [hl]) (fun y hy => by
        rcases List.mem_append.mp hy with hy | hy
        · exact hx y hy
        · rw [List.mem_singleton.mp hy]; exact hp p List.mem_cons_self) fun q hq => hp q (List.mem_cons_of_mem _ hq)
      refine ⟨ks', xs', by rw [← h1, List.map_append]; rfl, h2, h3, fun i => ?_, by simp only [List.length_append, List.length_cons, List.length_nil] at h5 ⊢; omega, h6⟩
      rw [h4]
      constructor
      · rintro (h | ⟨q, hq, e⟩)
        · rcases List.mem_append.mp h with h | h
          · exact .inl h
          · exact .inr ⟨p, List.mem_cons_self, (List.mem_singleton.mp h).symm⟩
        · exact .inr ⟨q, List.mem_cons_of_mem _ hq, e⟩
      · rintro (h' | ⟨q, hq, e⟩)
        · exact .inl (List.mem_append_left _ h')
        · rcases List.mem_cons.mp hq with rfl | hq
          · exact .inl (List.mem_append_right _ (List.mem_singleton.mpr e.symm))
          · exact .inr ⟨q, hq, e⟩
theorem pairsD_ints : ∀ (ps : List (Int × D)), pairsD (ps.map fun p => .tup [.int p.1, p.2]) = some (ps.map fun p => (Sum.inl p.1, p.2))
  | [] => rfl
  | p :: r => by
    rw [List.map_cons]
    unfold pairsD
    rw [pairsD_ints r]
    rfl
theorem dictL_ints (P : D → Prop) (ps : List (Int × D)) (hp : ∀ p ∈ ps, P p.2) : ∃ (ks : List Int) (xs : List D), dictL [.lst (ps.map fun p => .tup [.int p.1, p.2])] = some (.dK (ks.map Sum.inl) xs) ∧ ks.Nodup ∧ ks.length = xs.length ∧ (∀ i, i ∈ ks ↔ ∃ p ∈ ps, p.1 = i) ∧ ks.length ≤ ps.length ∧ ∀ x ∈ xs, P x := by
  obtain ⟨ks, xs, h1, h2, h3, h4, h5, h6⟩ := merge_ints P ps [] [] List.nodup_nil rfl (fun _ h => nomatch h) hp
  refine ⟨ks, xs, ?_, h2, h3, fun i => by rw [h4]; simp, by simpa using h5, h6⟩
  show (pairsD _).map _ = _
  rw [pairsD_ints]
  show some (D.dK _ _) = _
  rw [show (([] : List Key), ([] : List D)) = (([] : List Int).map Sum.inl, ([] : List D)) from rfl, h1]
theorem keyInts_map : ∀ ks : List Int, keyInts (ks.map Sum.inl) = some ks
  | [] => rfl
  | k :: r => by
    rw [List.map_cons]
    unfold keyInts
    rw [keyInts_map r]
    rfl
theorem sortL_keys (ks : List Int) (xs : List D) (h : ks.length < 64) : sortL [.dK (ks.map Sum.inl) xs] = some (.lst ((sortI ks).map D.int)) := by
  show (keyInts _).bind _ = _
  rw [keyInts_map]
  show (if _ then _ else _) = _
  rw [if_pos h]
theorem plainAll_ints : ∀ ns : List Int, PyData.plainAll (toPys (ns.map D.int)) = true
  | [] => rfl
  | n :: r => by simpa [toPys, PyData.plainAll, toPy, PyData.plain] using plainAll_ints r
theorem any_ints (i : Int) : ∀ ns : List Int, ((toPys (ns.map D.int)).any fun y => PyData.eqv y (toPy (.int i))) = decide (i ∈ ns)
  | [] => by simp [toPys]
  | n :: r => by
    have ih := any_ints i r
    simp only [List.map_cons, toPys, List.any_cons]
    rw [ih, Bool.eq_iff_iff]
    simp only [toPy, PyData.eqv, Bool.or_eq_true, beq_iff_eq, decide_eq_true_eq, List.mem_cons]
    constructor
    · rintro (h | h)
      · exact .inl h.symm
      · exact .inr h
    · rintro (h | h)
      · exact .inl h.symm
      · exact .inr h
theorem notIn_lst (i : Int) (ns : List Int) : notInSD (.int i) (.lst (ns.map D.int)) = some (.bl (!decide (i ∈ ns))) := by
  show (if _ then _ else _) = _
  rw [if_pos ⟨rfl, Nat.zero_le _, plainAll_ints ns⟩, any_ints]
theorem notIn_tup (i : Int) (ns : List Int) : notInSD (.int i) (.tup (ns.map D.int)) = some (.bl (!decide (i ∈ ns))) := by
  show (if _ then _ else _) = _
  rw [if_pos ⟨rfl, Nat.zero_le _, plainAll_ints ns⟩, any_ints]
end VS

/-! PU3: steps with the bag at hand; the draw of the laws. -/
namespace VS
open PySem PySem.Spec L2 RZ
open PyProof.Rows hiding St

section
variable {env : Slots} {g g' g2 : Bag}
theorem appH_of {O : List Nat} {i : Nat} {a : EX} {xs : List D} {d : D} (h1 : lstAt env i = some xs) (h2 : a (hide O env) = M.ret d) (hl : xs.length < line) : appH O i a env = M.ret (.nx (env.set i (some (.lst (xs ++ [d]))))) := by
  rw [appH_eq, h1, ofO_someM, bnd_ret, h2, bnd_ret, if_pos hl]
theorem appH_at {O : List Nat} {i : Nat} {a : EX} {xs : List D} {d : D} (h1 : lstAt env i = some xs) (h2 : a (hide O env) g = .ok d g') (hl : xs.length < line) : appH O i a env g = .ok (.nx (env.set i (some (.lst (xs ++ [d]))))) g' := by
  rw [appH_eq, h1, ofO_someM, bnd_ret, bnd_okM h2, if_pos hl]
  rfl
theorem ifS_of {τ : TX} {a b : SX} {c : Bool} (h : τ env = M.ret c) : ifS τ a b env = if c = true then a env else b env := by
  rw [ifS_eq, h, bnd_ret]
theorem ifS_at {τ : TX} {a b : SX} {c : Bool} (h : τ env g = .ok c g') : ifS τ a b env g = if c = true then a env g' else b env g' := by
  rw [ifS_eq, bnd_okM h]
  cases c <;> rfl
theorem valT_of {a : EX} {b : Bool} (h : a env = M.ret (.bl b)) : valT a env = M.ret b := by
  rw [valT_eq, h, bnd_ret, asB_bl, ofO_someM]
theorem valT_at {a : EX} {b : Bool} (h : a env g = .ok (.bl b) g') : valT a env g = .ok b g' := by
  rw [valT_eq, bnd_okM h]
  rfl
theorem bin2_at {q : D → D → Option D} {a b : EX} {x y z : D} (h1 : a env g = .ok x g') (h2 : b env g' = .ok y g2) (h3 : q x y = some z) : bin2 q a b env g = .ok z g2 := by
  rw [bin2_eq, bnd_okM h1, bnd_okM h2, h3]
  rfl
theorem call1_at {q : List D → Option D} {a : EX} {x z : D} (h1 : a env g = .ok x g') (h3 : q [x] = some z) : callE q (consA a nilA) env g = .ok z g' := by
  rw [callE_eq, consA_eq]
  simp only [nilA_eq, bnd_ret, bnd_assoc]
  rw [bnd_okM h1, h3]
  rfl
theorem asgH_at {O : List Nat} {i : Nat} {a : EX} {d : D} (h : a (hide O env) g = .ok d g') : asgH O i a env g = .ok (.nx (env.set i (some d))) g' := by
  rw [asgH_eq, bnd_okM h]
  rfl
theorem retS_at {a : EX} {d : D} (h : a env g = .ok d g') : retS a env g = .ok (.rt d) g' := by
  rw [retS_eq, bnd_okM h]
  rfl
theorem tup2_of {a b : EX} {x y : D} (h1 : a env = M.ret x) (h2 : b env = M.ret y) : tupE (consA a (consA b nilA)) env = M.ret (.tup [x, y]) := by
  rw [tupE_eq, consA_eq, h1, bnd_ret, consA_eq, h2]
  rfl
theorem tup3_of {a b c : EX} {x y z : D} (h1 : a env = M.ret x) (h2 : b env = M.ret y) (h3 : c env = M.ret z) : tupE (consA a (consA b (consA c nilA))) env = M.ret (.tup [x, y, z]) := by
  rw [tupE_eq, consA_eq, h1, bnd_ret, consA_eq, h2, bnd_ret, consA_eq, h3]
  rfl
theorem tup1_of {a : EX} {x : D} (h1 : a env = M.ret x) : tupE (consA a nilA) env = M.ret (.tup [x]) := by
  rw [tupE_eq, consA_eq, h1]
  rfl
theorem args1 {a : EX} {x : D} (h1 : a env = M.ret x) : consA a nilA env = M.ret [x] := by
  rw [consA_eq, h1]
  rfl
theorem args2 {a b : EX} {x y : D} (h1 : a env = M.ret x) (h2 : b env = M.ret y) : consA a (consA b nilA) env = M.ret [x, y] := by
  rw [consA_eq, h1, bnd_ret, args1 h2]
  rfl
theorem args1_at {a : EX} {x : D} (h1 : a env g = .ok x g') : consA a nilA env g = .ok [x] g' := by
  rw [consA_eq, bnd_okM h1]
  rfl
theorem consA_at {a : EX} {b : AX} {x : D} {xs : List D} (h1 : a env g = .ok x g') (h2 : b env g' = .ok xs g2) : consA a b env g = .ok (x :: xs) g2 := by
  rw [consA_eq, bnd_okM h1, bnd_okM h2]
  rfl
theorem tupE_at {b : AX} {xs : List D} (h : b env g = .ok xs g') (hl : xs.length ≤ 1000) : tupE b env g = .ok (.tup xs) g' := by
  rw [tupE_eq, bnd_okM h, if_pos hl]
  rfl
theorem lstE_at {b : AX} {xs : List D} (h : b env g = .ok xs g') (hl : xs.length ≤ 1000) : lstE b env g = .ok (.lst xs) g' := by
  rw [lstE_eq, bnd_okM h, if_pos hl]
  rfl
theorem fnE_at {ρ : FX} {b : AX} {n : Nat} {ds : List D} {d : D} (h1 : b env = M.ret ds) (hl : ds.length = n) (h2 : ρ ds g = .ok d g') : fnE ρ b n env g = .ok d g' := by
  rw [fnE_eq, h1, bnd_ret, if_pos hl, noX_okM h2]
theorem fnE_of {ρ : FX} {b : AX} {n : Nat} {ds : List D} {d : D} (h1 : b env = M.ret ds) (hl : ds.length = n) (h2 : ρ ds = M.ret d) : fnE ρ b n env = M.ret d :=
  funext fun g => fnE_at h1 hl (by rw [h2]; rfl)
theorem lc_run_at {α : Type} {ι : IX} {bd : BX} {τ : TX} {ρ : EX} {vs : List Nat} (enc : α → D) (p : α → Bool) (f : α → D) (xs : List α) (hι : ι env g = .ok (xs.map enc) g') (hl : xs.length ≤ line)
    (h : ∀ x ∈ xs, ∃ l, bd (enc x) = some l ∧ τ (setsE (wipeE env vs) l) = M.ret (p x) ∧ (p x = true → ρ (setsE (wipeE env vs) l) = M.ret (f x))) : lcE ι bd τ ρ vs env g = .ok (.lst ((xs.filter p).map f)) g' := by
  rw [lcE_eq, bnd_okM hι, if_pos (by rw [List.length_map]; exact hl), lcGo_map enc p f xs h]
  rfl
theorem rng1_at {a : EX} {k : Nat} (h : a env g = .ok (.int k) g') (h1 : k ≤ 1000000) : rng1I (consA a nilA) env g = .ok (rngD 0 k) g' := by
  rw [rng1I_eq, bnd_okM (args1_at h)]
  simp only
  rw [if_pos (by omega)]
  rfl
end
theorem seqI_at {a : EX} {env : Slots} {g g' : Bag} {d : D} {xs : List D} (h : a env g = .ok d g') (hi : itemsD d = some xs) : seqI a env g = .ok xs g' := by
  rw [seqI_eq, bnd_okM h, hi]
  rfl
theorem seqI_of {a : EX} {env : Slots} {d : D} {xs : List D} (h : a env = M.ret d) (hi : itemsD d = some xs) : seqI a env = M.ret xs := by
  rw [seqI_eq, h, bnd_ret, hi]
  rfl
theorem forGo_nil {O : List Nat} {bd : BX} {ρ : SX} {env : Slots} : forGo O bd ρ [] env = M.ret (.nx env) := rfl
theorem forGo_cons {O : List Nat} {bd : BX} {ρ : SX} {env : Slots} {d : D} {ds : List D} {l : List (Nat × D)} (hb : bd d = some l) (ho : outO O l = true) : forGo O bd ρ (d :: ds) env = M.bnd (ρ (setsE env l)) (goS (forGo O bd ρ ds)) := by
  show M.bnd (M.ofO (bd d)) (fun l => if outO O l = true then M.bnd (ρ (setsE env l)) (goS (forGo O bd ρ ds)) else M.bad) = _
  rw [hb, ofO_someM, bnd_ret, if_pos ho]
theorem forH_at {O : List Nat} {ι : IX} {bd : BX} {ρ : SX} {env : Slots} {g g' : Bag} {ds : List D} (h : ι (hide O env) g = .ok ds g') : forH O ι bd ρ env g = forGo O bd ρ ds env g' := by
  rw [forH_eq, bnd_okM h]
theorem forH_of {O : List Nat} {ι : IX} {bd : BX} {ρ : SX} {env : Slots} {ds : List D} (h : ι (hide O env) = M.ret ds) : forH O ι bd ρ env = forGo O bd ρ ds env := by
  rw [forH_eq, h, bnd_ret]
theorem notT_of {τ : TX} {env : Slots} {b : Bool} (h : τ env = M.ret b) : notT τ env = M.ret (!b) := by
  rw [notT_eq, h, bnd_ret]
theorem notT_at {τ : TX} {env : Slots} {g g' : Bag} {b : Bool} (h : τ env g = .ok b g') : notT τ env g = .ok (!b) g' := by
  rw [notT_eq, bnd_okM h]
  rfl
theorem orT_at {τ υ : TX} {env : Slots} {g g' g2 : Bag} {b c : Bool} (h : τ env g = .ok b g') (h2 : b = false → υ env g' = .ok c g2) (h3 : b = true → c = true ∧ g2 = g') : orT τ υ env g = .ok c g2 := by
  rw [orT_eq, bnd_okM h]
  cases b with
  | true => obtain ⟨rfl, rfl⟩ := h3 rfl; rfl
  | false => exact h2 rfl
theorem orT_f {τ υ : TX} {env : Slots} {g g' : Bag} (h : τ env g = .ok false g') : orT τ υ env g = υ env g' := by
  rw [orT_eq, bnd_okM h]
  rfl
theorem fnXE_of {ρ : FX} {b : AX} {n : Nat} {env : Slots} {ds : List D} (h1 : b env = M.ret ds) (hl : ds.length = n) : fnXE ρ b n env = ρ ds := by
  rw [fnXE_eq, h1, bnd_ret, if_pos hl]
theorem dropS_of {a : EX} {env : Slots} {d : D} (h : a env = M.ret d) : dropS a env = M.ret (.nx env) := by
  rw [dropS_eq, h, bnd_ret]
/-- what is drawn into a list -/
theorem lcGo_draw {bd : BX} {ρ : EX} {w : Slots} (Q : D → Prop) : ∀ (ds : List D) (g : Bag), (∀ d ∈ ds, ∃ l, bd d = some l ∧ ∀ g, ∃ v g', ρ (setsE w l) g = .ok v g' ∧ Q v) →
    ∃ vs g', lcGo w bd yesT ρ ds g = .ok vs g' ∧ vs.length = ds.length ∧ ∀ v ∈ vs, Q v
  | [], g, _ => ⟨[], g, rfl, rfl, fun _ h => nomatch h⟩
  | d :: ds, g, h => by
    obtain ⟨l, hb, hr⟩ := h d List.mem_cons_self
    obtain ⟨v, g1, h1, hq⟩ := hr g
    obtain ⟨vs, g2, h2, hl, hQ⟩ := lcGo_draw Q ds g1 fun d' hd => h d' (List.mem_cons_of_mem _ hd)
    refine ⟨v :: vs, g2, ?_, by rw [List.length_cons, List.length_cons, hl], fun u hu => ?_⟩
    · unfold lcGo
      rw [hb]
      simp only [yesT_eq, noX_ret, bnd_ret, if_true]
      rw [bnd_okM (noX_okM h1), bnd_okM h2]
      rfl
    · rcases List.mem_cons.mp hu with rfl | hu
      · exact hq
      · exact hQ u hu
theorem lc_draw {ι : IX} {bd : BX} {ρ : EX} {vs : List Nat} {env : Slots} {g g' : Bag} (Q : D → Prop) (ds : List D) (hι : ι env g = .ok ds g') (hl : ds.length ≤ line) (h : ∀ d ∈ ds, ∃ l, bd d = some l ∧ ∀ g, ∃ v g', ρ (setsE (wipeE env vs) l) g = .ok v g' ∧ Q v) :
    ∃ xs g2, lcE ι bd yesT ρ vs env g = .ok (.lst xs) g2 ∧ xs.length = ds.length ∧ ∀ v ∈ xs, Q v := by
  obtain ⟨xs, g2, h1, h2, h3⟩ := lcGo_draw Q ds g' h
  refine ⟨xs, g2, ?_, h2, h3⟩
  rw [lcE_eq, bnd_okM hι, if_pos hl, bnd_okM h1]
  rfl
/-! ### the draw -/
theorem mulD_const (i j : Int) (h : -4294967296 ≤ j ∧ j ≤ 4294967296) : mulD (.int i) (.int j) = some (.int (i * j)) := by
  show (if _ then _ else _) = _
  rw [if_pos (.inr (by omega))]
theorem modD_pos (i j : Int) (h : 0 < j) : modD (.int i) (.int j) = some (.int (i % j)) := by
  show (if _ then _ else _) = _
  rw [if_pos h]
theorem divD_pos (i j : Int) (h : 0 < j ∧ j < 1073741824) : divD (.int i) (.int j) = some (.int (i / j)) := by
  show (if _ then _ else _) = _
  rw [if_pos h]
theorem bagE_at {i : Int} {a : EX} {env : Slots} {g : Bag} {z : Int} (h : a env = M.ret .bag) (hi : bagIx g i = some z) : bagE i a env g = .ok (.int z) g := by
  unfold bagE
  rw [h, bnd_ret]
  simp only [hi]
theorem bagS_at {i0 : Nat} {i : Int} {a : EX} {env : Slots} {g g1 g2 : Bag} {v : Int} (h : a env g = .ok (.int v) g1) (hb : isBag env i0 = some ()) (hs : bagSet g1 i v = some g2) : bagS i0 i a env g = .ok (.nx env) g2 := by
  unfold bagS
  rw [bnd_okM h, hb, ofO_someM, bnd_ret]
  show (match bagSet g1 i v with
    | some g' => Out.ok (Fl.nx env) g'
    | none => Out.bad) = _
  rw [hs]
noncomputable def drawS : SX := (seqS (ifS (valT (bin2 eqVD (bagE 0 (varE 0)) (cE (.int 0)))) (seqS (asgH [] 2 (bin2 modD (callE intL (consA (bin2 addD (bin2 addD (bin2 mulD (bagE 1 (varE 0)) (cE (.int 48271))) (bin2 mulD (bagE 2 (varE 0)) (cE (.int 69621)))) (cE (.int 11))) nilA)) (cE (.int 2147483647)))) (seqS (bagS 0 0 (bin2 addD (bin2 mulD (varE 2) (cE (.int 2147483629))) (bin2 modD (callE intL (consA (bin2 addD (bin2 mulD (varE 2) (varE 2)) (bin2 mulD (bagE 2 (varE 0)) (cE (.int 16807)))) nilA)) (cE (.int 2147483629))))) (bagS 0 1 (varE 2)))) nxS) (seqS (asgH [] 3 (bagE 0 (varE 0))) (seqS (bagS 0 0 (bin2 divD (varE 3) (varE 1))) (retS (bin2 modD (callE intL (consA (varE 3) nilA)) (varE 1))))))
noncomputable def drawF : FX := fnD ["bag", "many", "seed", "rest"] drawS
theorem draw_rest {many : Int} (h : 0 < many ∧ many < 1073741824) (x2 : Option D) (g : Bag) :
    seqS (asgH [] 3 (bagE 0 (varE 0))) (seqS (bagS 0 0 (bin2 divD (varE 3) (varE 1))) (retS (bin2 modD (callE intL (consA (varE 3) nilA)) (varE 1)))) [some .bag, some (.int many), x2, none] g = .ok (.rt (.int (g.1 % many))) (g.1 / many, g.2) := by
  have h1 : asgH [] 3 (bagE 0 (varE 0)) [some .bag, some (.int many), x2, none] g = .ok (.nx [some .bag, some (.int many), x2, some (.int g.1)]) g := asgH_at (bagE_at (z := g.1) rfl rfl)
  rw [seqS_ok h1]
  have h2 : bagS 0 0 (bin2 divD (varE 3) (varE 1)) [some .bag, some (.int many), x2, some (.int g.1)] g = .ok (.nx [some .bag, some (.int many), x2, some (.int g.1)]) (g.1 / many, g.2) := bagS_at (by rw [bin2_of (x := .int g.1) (y := .int many) rfl rfl (divD_pos _ _ h)]; rfl) rfl rfl
  rw [seqS_ok h2]
  refine retS_at ?_
  rw [bin2_of (x := .int g.1) (y := .int many) (call1_of (x := .int g.1) rfl rfl) rfl (modD_pos _ _ h.1)]
  rfl
theorem draw_at {many : Int} (h : 0 < many ∧ many < 1073741824) (g : Bag) : ∃ v g', drawF [.bag, .int many] g = .ok (.int v) g' ∧ 0 ≤ v ∧ v < many := by
  have key : ∃ x2 g1, ifS (valT (bin2 eqVD (bagE 0 (varE 0)) (cE (.int 0)))) (seqS (asgH [] 2 (bin2 modD (callE intL (consA (bin2 addD (bin2 addD (bin2 mulD (bagE 1 (varE 0)) (cE (.int 48271))) (bin2 mulD (bagE 2 (varE 0)) (cE (.int 69621)))) (cE (.int 11))) nilA)) (cE (.int 2147483647)))) (seqS (bagS 0 0 (bin2 addD (bin2 mulD (varE 2) (cE (.int 2147483629))) (bin2 modD (callE intL (consA (bin2 addD (bin2 mulD (varE 2) (varE 2)) (bin2 mulD (bagE 2 (varE 0)) (cE (.int 16807)))) nilA)) (cE (.int 2147483629))))) (bagS 0 1 (varE 2)))) nxS [some .bag, some (.int many), none, none] g = .ok (.nx [some .bag, some (.int many), x2, none]) g1 := by
    rw [ifS_at (valT_at (bin2_at (bagE_at (z := g.1) rfl rfl) rfl (eqVD_ii _ _)))]
    by_cases h0 : g.1 = 0
    · rw [if_pos (by simpa using h0)]
      have hs0 := Int.emod_nonneg (g.2.1 * 48271 + g.2.2 * 69621 + 11) (show (2147483647 : Int) ≠ 0 by decide)
      have hs1 := Int.emod_lt_of_pos (g.2.1 * 48271 + g.2.2 * 69621 + 11) (show (0 : Int) < 2147483647 by decide)
      have h1 : asgH [] 2 (bin2 modD (callE intL (consA (bin2 addD (bin2 addD (bin2 mulD (bagE 1 (varE 0)) (cE (.int 48271))) (bin2 mulD (bagE 2 (varE 0)) (cE (.int 69621)))) (cE (.int 11))) nilA)) (cE (.int 2147483647))) [some .bag, some (.int many), none, none] g = .ok (.nx [some .bag, some (.int many), some (.int ((g.2.1 * 48271 + g.2.2 * 69621 + 11) % 2147483647)), none]) g := by
        refine asgH_at (bin2_at (call1_at (bin2_at (bin2_at (bin2_at (bagE_at (z := g.2.1) rfl rfl) rfl (mulD_const _ _ (by omega))) (bin2_at (bagE_at (z := g.2.2) rfl rfl) rfl (mulD_const _ _ (by omega))) (addD_ii _ _)) rfl (addD_ii _ _)) (intL_int _)) rfl (modD_pos _ _ (by decide)))
      rw [seqS_ok h1]
      generalize (g.2.1 * 48271 + g.2.2 * 69621 + 11) % 2147483647 = s at hs0 hs1
      have h2 : bagS 0 0 (bin2 addD (bin2 mulD (varE 2) (cE (.int 2147483629))) (bin2 modD (callE intL (consA (bin2 addD (bin2 mulD (varE 2) (varE 2)) (bin2 mulD (bagE 2 (varE 0)) (cE (.int 16807)))) nilA)) (cE (.int 2147483629)))) [some .bag, some (.int many), some (.int s), none] g = .ok (.nx [some .bag, some (.int many), some (.int s), none]) (s * 2147483629 + (s * s + g.2.2 * 16807) % 2147483629, g.2) := by
        refine bagS_at (bin2_at (bin2_at (x := .int s) rfl rfl (mulD_const _ _ (by omega))) (bin2_at (call1_at (bin2_at (bin2_at (x := .int s) (y := .int s) rfl rfl (mulD_const _ _ (by omega))) (bin2_at (bagE_at (z := g.2.2) rfl rfl) rfl (mulD_const _ _ (by omega))) (addD_ii _ _)) (intL_int _)) rfl (modD_pos _ _ (by decide))) (addD_ii _ _)) rfl rfl
      rw [seqS_ok h2]
      exact ⟨_, _, bagS_at (v := s) rfl rfl rfl⟩
    · rw [if_neg (by simpa using h0)]
      exact ⟨none, g, rfl⟩
  obtain ⟨x2, g1, hk⟩ := key
  refine ⟨g1.1 % many, (g1.1 / many, g1.2), fnD_ok (env := [some .bag, some (.int many), none, none]) rfl ?_, Int.emod_nonneg _ (by omega), Int.emod_lt_of_pos _ h.1⟩
  unfold drawS
  rw [seqS_ok hk]
  exact draw_rest h x2 g1
end VS

/-! K80a: what the defs of the law compute, as functions of slots. -/
namespace K80
open PySem PySem.Spec L2 RZ VS
open PyProof.Rows hiding St
def top (i : Nat) : Stmt := PySem.Challenge.pw_wordplays_k80_whole_energies.main.body.getD i (.Pass ⟨0, 0, 0, 0⟩)
/-! ### is_integer -/
abbrev st_is_integer : Stmt := top 5
abbrev n_is_integer : List Str := ["value", "low", "high"]
abbrev p_is_integer : List Str := ["value", "low", "high"]
noncomputable def s_is_integer : SX := (retS (andE (isaE "int" (varE 0)) (andE (notE (isaE "bool" (varE 0))) (chE .LtE .LtE (varE 1) (varE 0) (varE 2)))))
noncomputable def r_is_integer : FX := fnD n_is_integer s_is_integer
/-! ### is_way -/
abbrev st_is_way : Stmt := top 9
abbrev n_is_way : List Str := ["value", "many"]
abbrev p_is_way : List Str := ["value", "many"]
noncomputable def s_is_way : SX := (seqS (ifS (orT (notT (valT (isaE "tuple" (varE 0)))) (valT (bin2 neVD (callE lenL (consA (varE 0) nilA)) (cE (.int 2))))) (retS (cE (.bl false))) nxS) (retS (andE (fnE r_is_integer (consA (bin2 ixD (varE 0) (cE (.int 0))) (consA (cE (.int 0)) (consA (bin2 subD (varE 1) (cE (.int 1))) nilA))) p_is_integer.length) (fnE r_is_integer (consA (bin2 ixD (varE 0) (cE (.int 1))) (consA (un1 negD (cE (.int 20))) (consA (cE (.int 20)) nilA))) p_is_integer.length))))
noncomputable def r_is_way : FX := fnD n_is_way s_is_way
/-! ### is_weighing -/
abbrev st_is_weighing : Stmt := top 10
abbrev n_is_weighing : List Str := ["value", "many", "node", "way", "one", "other"]
abbrev p_is_weighing : List Str := ["value"]
noncomputable def e_is_weighing1 : EX := (lcE (seqI (bin2 ixD (varE 2) (cE (.int 1)))) (nameB 3) yesT (fnE r_is_way (consA (varE 3) (consA (varE 1) nilA)) p_is_way.length) [3])
noncomputable def e_is_weighing2 : EX := (lcE (zipI (consA (bin2 ixD (varE 2) (cE (.int 1))) (consA (slE (bin2 ixD (varE 2) (cE (.int 1))) (someP (cE (.int 1))) noP) nilA))) (tupB 2 (consB (nameB 4) (consB (nameB 5) nilB))) yesT (bin2 ltD (bin2 ixD (varE 4) (cE (.int 0))) (bin2 ixD (varE 5) (cE (.int 0)))) [4, 5])
noncomputable def b_is_weighing3 : SX := (seqS (ifS (orT (notT (valT (isaE "tuple" (varE 2)))) (orT (valT (bin2 neVD (callE lenL (consA (varE 2) nilA)) (cE (.int 2)))) (notT (valT (fnE r_is_integer (consA (bin2 ixD (varE 2) (cE (.int 0))) (consA (cE (.int 0)) (consA (cE (.int 1)) nilA))) p_is_integer.length))))) (retS (cE (.bl false))) nxS) (seqS (ifS (orT (notT (valT (isaE "tuple" (bin2 ixD (varE 2) (cE (.int 1)))))) (orT (valT (bin2 eqVD (callE lenL (consA (bin2 ixD (varE 2) (cE (.int 1))) nilA)) (cE (.int 0)))) (notT (valT (callE allL (consA e_is_weighing1 nilA)))))) (retS (cE (.bl false))) nxS) (ifS (notT (valT (callE allL (consA e_is_weighing2 nilA)))) (retS (cE (.bl false))) nxS)))
noncomputable def s_is_weighing : SX := (seqS (ifS (orT (notT (valT (isaE "tuple" (varE 0)))) (orT (valT (bin2 neVD (callE lenL (consA (varE 0) nilA)) (cE (.int 2)))) (orT (valT (bin2 neVD (bin2 ixD (varE 0) (cE (.int 0))) (cE (.str "weighing")))) (notT (valT (isaE "tuple" (bin2 ixD (varE 0) (cE (.int 1))))))))) (retS (cE (.bl false))) nxS) (seqS (asgH [] 1 (callE lenL (consA (bin2 ixD (varE 0) (cE (.int 1))) nilA))) (seqS (ifS (notT (valT (chE .LtE .LtE (cE (.int 1)) (varE 1) (cE (.int 24))))) (retS (cE (.bl false))) nxS) (seqS (forH [] (seqI (bin2 ixD (varE 0) (cE (.int 1)))) (nameB 2) b_is_weighing3) (retS (cE (.bl true)))))))
noncomputable def r_is_weighing : FX := fnD n_is_weighing s_is_weighing
/-! ### look_at -/
abbrev st_look_at : Stmt := top 11
abbrev n_look_at : List Str := ["weighing"]
abbrev p_look_at : List Str := ["weighing"]
noncomputable def s_look_at : SX := (ifS (notT (valT (fnE r_is_weighing (consA (varE 0) nilA) p_is_weighing.length))) (raiseS 0 (cE (.int 0))) nxS)
noncomputable def r_look_at : FX := fnD n_look_at s_look_at
/-! ### due_of -/
abbrev st_due_of : Stmt := top 12
abbrev n_due_of : List Str := ["node", "found", "owner", "ways", "dues", "to", "weight"]
abbrev p_due_of : List Str := ["node", "found"]
noncomputable def e_due_of1 : EX := (lcE (seqI (varE 3)) (tupB 2 (consB (nameB 5) (consB (nameB 6) nilB))) (valT (bin2 notNonD (bin2 ixD (varE 1) (varE 5)) (cE .non))) (callE maxL (consA (cE (.int 0)) (consA (bin2 subD (bin2 ixD (varE 1) (varE 5)) (varE 6)) nilA))) [5, 6])
noncomputable def s_due_of : SX := (seqS (unpH [] (tupB 2 (consB (nameB 2) (consB (nameB 3) nilB))) (varE 0)) (seqS (asgH [] 4 e_due_of1) (seqS (ifS (valT (bin2 eqVD (varE 2) (cE (.int 0)))) (seqS (ifS (valT (bin2 eqVD (callE lenL (consA (varE 4) nilA)) (cE (.int 0)))) (retS (cE .non)) nxS) (retS (callE minL (consA (varE 4) nilA)))) nxS) (seqS (ifS (valT (bin2 ltD (callE lenL (consA (varE 4) nilA)) (callE lenL (consA (varE 3) nilA)))) (retS (cE .non)) nxS) (retS (callE maxL (consA (varE 4) nilA)))))))
noncomputable def r_due_of : FX := fnD n_due_of s_due_of
/-! ### credits_of -/
abbrev st_credits_of : Stmt := top 13
abbrev n_credits_of : List Str := ["nodes", "most", "found", "is_more", "i", "node", "due", "_", "ways", "weight"]
abbrev p_credits_of : List Str := ["nodes"]
noncomputable def e_credits_of1 : EX := (lcE (seqI (varE 8)) (tupB 2 (consB (nameB 7) (consB (nameB 9) nilB))) yesT (un1 negD (varE 9)) [7, 9])
noncomputable def e_credits_of2 : EX := (lcE (seqI (varE 0)) (tupB 2 (consB (nameB 7) (consB (nameB 8) nilB))) yesT (callE maxL (consA (bin2 addD (lstE (consA (cE (.int 0)) nilA)) e_credits_of1) nilA)) [7, 8])
noncomputable def b_credits_of3 : SX := (ifS (valT (bin2 notNonD (bin2 ixD (varE 2) (varE 4)) (cE .non))) (seqS (asgF 6 (fnE r_due_of (consA (varE 5) (consA (varE 2) nilA)) p_due_of.length)) (ifS (orT (valT (bin2 isNonD (varE 6) (cE .non))) (valT (bin2 gtD (varE 6) (varE 1)))) (seqS (stoH [2] 2 (varE 4) (cE .non)) (asgH [2] 3 (cE (.bl true)))) (ifS (valT (bin2 gtD (varE 6) (bin2 ixD (varE 2) (varE 4)))) (seqS (stoH [2] 2 (varE 4) (varE 6)) (asgH [2] 3 (cE (.bl true)))) nxS))) nxS)
noncomputable def b_credits_of4 : SX := (seqS (asgH [2] 3 (cE (.bl false))) (forH [2] (enumTI (consA (varE 0) nilA)) (tupB 2 (consB (nameB 4) (consB (nameB 5) nilB))) b_credits_of3))
noncomputable def s_credits_of : SX := (seqS (asgH [] 1 (callE sumL (consA e_credits_of2 nilA))) (seqS (asgNH [] 2 (bin2 mulL (lstE (consA (cE (.int 0)) nilA)) (callE lenL (consA (varE 0) nilA)))) (seqS (asgH [2] 3 (cE (.bl true))) (seqS (whileS (valT (varE 3)) b_credits_of4) (retS (callE tupL (consA (varE 2) nilA)))))))
noncomputable def r_credits_of : FX := fnD n_credits_of s_credits_of
/-! ### energies -/
abbrev st_energies : Stmt := top 14
abbrev n_energies : List Str := ["weighing"]
abbrev p_energies : List Str := ["weighing"]
noncomputable def s_energies : SX := (seqS (dropS (fnXE r_look_at (consA (varE 0) nilA) p_look_at.length)) (retS (fnE r_credits_of (consA (bin2 ixD (varE 0) (cE (.int 1))) nilA) p_credits_of.length)))
noncomputable def r_energies : FX := fnD n_energies s_energies
/-! ### judge_energies -/
abbrev st_judge_energies : Stmt := top 15
abbrev n_judge_energies : List Str := ["weighing", "paper", "one", "node", "due"]
abbrev p_judge_energies : List Str := ["weighing", "paper"]
noncomputable def e_judge_energies1 : EX := (lcE (seqI (varE 1)) (nameB 2) yesT (orE (bin2 isNonD (varE 2) (cE .non)) (andE (isaE "int" (varE 2)) (andE (notE (isaE "bool" (varE 2))) (bin2 geD (varE 2) (cE (.int 0)))))) [2])
noncomputable def b_judge_energies2 : SX := (seqS (asgH [] 4 (fnE r_due_of (consA (varE 3) (consA (varE 1) nilA)) p_due_of.length)) (ifS (andT (valT (bin2 notNonD (varE 2) (cE .non))) (orT (valT (bin2 isNonD (varE 4) (cE .non))) (valT (bin2 ltD (varE 2) (varE 4))))) (raiseS 1 (cE (.str "due"))) nxS))
noncomputable def s_judge_energies : SX := (seqS (dropS (fnXE r_look_at (consA (varE 0) nilA) p_look_at.length)) (seqS (ifS (orT (notT (valT (isaE "tuple" (varE 1)))) (valT (bin2 neVD (callE lenL (consA (varE 1) nilA)) (callE lenL (consA (bin2 ixD (varE 0) (cE (.int 1))) nilA))))) (raiseS 1 (cE (.str "form"))) nxS) (seqS (ifS (notT (valT (callE allL (consA e_judge_energies1 nilA)))) (raiseS 1 (cE (.str "form"))) nxS) (forH [] (zipI (consA (varE 1) (consA (bin2 ixD (varE 0) (cE (.int 1))) nilA))) (tupB 2 (consB (nameB 2) (consB (nameB 3) nilB))) b_judge_energies2))))
noncomputable def r_judge_energies : FX := fnD n_judge_energies s_judge_energies
/-! ### _law_bag -/
abbrev st__law_bag : Stmt := top 17
abbrev n__law_bag : List Str := ["script", "k", "cell"]
abbrev p__law_bag : List Str := ["script", "k"]
/-! ### _law_draw -/
abbrev st__law_draw : Stmt := top 18
abbrev n__law_draw : List Str := ["bag", "many", "seed", "rest"]
abbrev p__law_draw : List Str := ["bag", "many"]
noncomputable def s__law_draw : SX := (seqS (ifS (valT (bin2 eqVD (bagE 0 (varE 0)) (cE (.int 0)))) (seqS (asgH [] 2 (bin2 modD (callE intL (consA (bin2 addD (bin2 addD (bin2 mulD (bagE 1 (varE 0)) (cE (.int 48271))) (bin2 mulD (bagE 2 (varE 0)) (cE (.int 69621)))) (cE (.int 11))) nilA)) (cE (.int 2147483647)))) (seqS (bagS 0 0 (bin2 addD (bin2 mulD (varE 2) (cE (.int 2147483629))) (bin2 modD (callE intL (consA (bin2 addD (bin2 mulD (varE 2) (varE 2)) (bin2 mulD (bagE 2 (varE 0)) (cE (.int 16807)))) nilA)) (cE (.int 2147483629))))) (bagS 0 1 (varE 2)))) nxS) (seqS (asgH [] 3 (bagE 0 (varE 0))) (seqS (bagS 0 0 (bin2 divD (varE 3) (varE 1))) (retS (bin2 modD (callE intL (consA (varE 3) nilA)) (varE 1))))))
noncomputable def r__law_draw : FX := fnD n__law_draw s__law_draw
/-! ### _law_weighing -/
abbrev st__law_weighing : Stmt := top 19
abbrev n__law_weighing : List Str := ["bag", "most", "heavy", "many", "nodes", "k", "ways", "turn", "to"]
abbrev p__law_weighing : List Str := ["bag", "most", "heavy"]
noncomputable def e_law_weighing1 : EX := (lcE (rng1I (consA (bin2 addD (cE (.int 1)) (fnE r__law_draw (consA (varE 0) (consA (cE (.int 3)) nilA)) p__law_draw.length)) nilA)) (nameB 7) yesT (tupE (consA (fnE r__law_draw (consA (varE 0) (consA (varE 3) nilA)) p__law_draw.length) (consA (bin2 subD (fnE r__law_draw (consA (varE 0) (consA (bin2 addD (bin2 mulD (cE (.int 2)) (varE 2)) (cE (.int 1))) nilA)) p__law_draw.length) (varE 2)) nilA))) [7])
noncomputable def e_law_weighing2 : EX := (lcE (keysI 6) (nameB 8) yesT (tupE (consA (varE 8) (consA (bin2 getD (varE 6) (varE 8)) nilA))) [8])
noncomputable def b_law_weighing3 : SX := (seqS (asgH [4] 6 (callE dictL (consA e_law_weighing1 nilA))) (appH [4] 4 (tupE (consA (fnE r__law_draw (consA (varE 0) (consA (cE (.int 2)) nilA)) p__law_draw.length) (consA (callE tupL (consA (callE sortL (consA e_law_weighing2 nilA)) nilA)) nilA)))))
noncomputable def s__law_weighing : SX := (seqS (asgH [] 3 (bin2 addD (cE (.int 1)) (fnE r__law_draw (consA (varE 0) (consA (varE 1) nilA)) p__law_draw.length))) (seqS (asgNH [] 4 (lstE nilA)) (seqS (forH [4] (rng1I (consA (varE 3) nilA)) (nameB 5) b_law_weighing3) (retS (tupE (consA (cE (.str "weighing")) (consA (callE tupL (consA (varE 4) nilA)) nilA)))))))
noncomputable def r__law_weighing : FX := fnD n__law_weighing s__law_weighing
/-! ### _law_choices -/
abbrev st__law_choices : Stmt := top 20
abbrev n__law_choices : List Str := ["nodes", "player", "found", "owner", "ways", "more", "one", "way"]
abbrev p__law_choices : List Str := ["nodes", "player"]
noncomputable def e_law_choices1 : EX := (lcE (seqI (varE 4)) (nameB 7) yesT (bin2 addD (varE 6) (tupE (consA (varE 7) nilA))) [7])
noncomputable def b_law_choices2 : SX := (ifS (valT (bin2 eqVD (varE 3) (varE 1))) (asgN 5 (bin2 addL (varE 5) e_law_choices1)) (appH [5] 5 (bin2 addD (varE 6) (tupE (consA (cE .non) nilA)))))
noncomputable def b_law_choices3 : SX := (seqS (asgNH [] 5 (lstE nilA)) (seqS (forH [5] (seqI (varE 2)) (nameB 6) b_law_choices2) (asgH [] 2 (varE 5))))
noncomputable def s__law_choices : SX := (seqS (asgH [] 2 (lstE (consA (tupE nilA) nilA))) (seqS (forH [] (seqI (varE 0)) (tupB 2 (consB (nameB 3) (consB (nameB 4) nilB))) b_law_choices3) (retS (varE 2))))
noncomputable def r__law_choices : FX := fnD n__law_choices s__law_choices
/-! ### _law_edges -/
abbrev st__law_edges : Stmt := top 21
abbrev n__law_edges : List Str := ["nodes", "choices", "k"]
abbrev p__law_edges : List Str := ["nodes", "choices"]
noncomputable def e_law_edges1 : EX := (lcE (rng1I (consA (callE lenL (consA (varE 0) nilA)) nilA)) (nameB 2) yesT (bin2 ixD (lstE (consA (bin2 ixD (bin2 ixD (varE 0) (varE 2)) (cE (.int 1))) (consA (tupE (consA (bin2 ixD (varE 1) (varE 2)) nilA)) nilA))) (callE intL (consA (bin2 notNonD (bin2 ixD (varE 1) (varE 2)) (cE .non)) nilA))) [2])
noncomputable def s__law_edges : SX := (retS e_law_edges1)
noncomputable def r__law_edges : FX := fnD n__law_edges s__law_edges
/-! ### _law_rounds -/
abbrev st__law_rounds : Stmt := top 22
abbrev n__law_rounds : List Str := ["edges", "first", "reached", "at", "to", "found", "start", "rows", "node", "met", "earned", "weight", "way"]
abbrev p__law_rounds : List Str := ["edges", "first"]
noncomputable def e_law_rounds1 : EX := (lcE (seqI (bin2 ixD (varE 0) (bin2 ixD (varE 2) (varE 3)))) (nameB 12) yesT (tupE (consA (bin2 ixD (varE 12) (cE (.int 0))) (consA (cE (.bl true)) nilA))) [12])
noncomputable def e_law_rounds2 : EX := (lcE (seqI (callE sortL (consA (callE dictL (consA e_law_rounds1 nilA)) nilA))) (nameB 4) (valT (bin2 notInSD (varE 4) (varE 2))) (varE 4) [4])
noncomputable def b_law_rounds3 : SX := (seqS (asgH [] 2 (bin2 addD (varE 2) e_law_rounds2)) (asgH [] 3 (bin2 addD (varE 3) (cE (.int 1)))))
noncomputable def b_law_rounds4 : SX := (ifS (valT (bin2 eqVD (varE 4) (varE 6))) (appH [5, 7] 5 (tupE (consA (bin2 addD (varE 10) (varE 11)) (consA (bin2 addD (callE lenL (consA (varE 9) nilA)) (cE (.int 1))) nilA)))) (ifS (andT (valT (bin2 gtD (varE 4) (varE 6))) (valT (bin2 notInSD (varE 4) (varE 9)))) (appH [5, 7] 7 (tupE (consA (varE 4) (consA (bin2 addD (varE 9) (tupE (consA (varE 4) nilA))) (consA (bin2 addD (varE 10) (varE 11)) nilA))))) nxS))
noncomputable def b_law_rounds5 : SX := (seqS (unpF [5, 7] (tupB 3 (consB (nameB 8) (consB (nameB 9) (consB (nameB 10) nilB)))) (bin2 ixD (varE 7) (un1 negD (cE (.int 1))))) (seqS (asgN 7 (slNE (varE 7) noP (someP (un1 negD (cE (.int 1)))))) (forH [5, 7] (seqI (bin2 ixD (varE 0) (varE 8))) (tupB 2 (consB (nameB 4) (consB (nameB 11) nilB))) b_law_rounds4)))
noncomputable def b_law_rounds6 : SX := (seqS (asgNH [5] 7 (lstE (consA (tupE (consA (varE 6) (consA (tupE nilA) (consA (cE (.int 0)) nilA)))) nilA))) (whileS (valT (bin2 neVD (varE 7) (lstE nilA))) b_law_rounds5))
noncomputable def s__law_rounds : SX := (seqS (asgH [] 2 (lstE (consA (varE 1) nilA))) (seqS (asgH [] 3 (cE (.int 0))) (seqS (whileS (valT (bin2 ltD (varE 3) (callE lenL (consA (varE 2) nilA)))) b_law_rounds3) (seqS (asgNH [] 5 (lstE nilA)) (seqS (forH [5] (seqI (varE 2)) (nameB 6) b_law_rounds6) (retS (varE 5)))))))
noncomputable def r__law_rounds : FX := fnD n__law_rounds s__law_rounds
/-! ### _law_due -/
abbrev st__law_due : Stmt := top 27
abbrev n__law_due : List Str := ["node", "found", "owner", "ways", "dues", "to", "weight", "one"]
abbrev p__law_due : List Str := ["node", "found"]
noncomputable def b_law_due1 : SX := (ifS (valT (bin2 isNonD (bin2 ixD (varE 1) (varE 5)) (cE .non))) (appH [4] 4 (lstE (consA (cE (.int 1)) (consA (cE (.int 0)) nilA)))) (appH [4] 4 (lstE (consA (cE (.int 0)) (consA (callE maxL (consA (cE (.int 0)) (consA (bin2 subD (bin2 ixD (varE 1) (varE 5)) (varE 6)) nilA))) nilA)))))
noncomputable def s__law_due : SX := (seqS (unpH [] (tupB 2 (consB (nameB 2) (consB (nameB 3) nilB))) (varE 0)) (seqS (asgNH [] 4 (lstE nilA)) (seqS (forH [4] (seqI (varE 3)) (tupB 2 (consB (nameB 5) (consB (nameB 6) nilB))) b_law_due1) (seqS (asgH [] 4 (callE sortL (consA (varE 4) nilA))) (seqS (asgH [] 7 (bin2 ixD (lstE (consA (bin2 ixD (varE 4) (cE (.int 0))) (consA (bin2 ixD (varE 4) (un1 negD (cE (.int 1)))) nilA))) (varE 2))) (retS (bin2 ixD (lstE (consA (bin2 ixD (varE 7) (cE (.int 1))) (consA (cE .non) nilA))) (bin2 ixD (varE 7) (cE (.int 0))))))))))
noncomputable def r__law_due : FX := fnD n__law_due s__law_due
/-! ### _law_energies -/
abbrev st__law_energies : Stmt := top 28
abbrev n__law_energies : List Str := ["nodes", "most", "found", "turn", "after", "k", "due", "owner", "ways", "to", "weight"]
abbrev p__law_energies : List Str := ["nodes"]
noncomputable def e_law_energies1 : EX := (lcE (seqI (varE 8)) (tupB 2 (consB (nameB 9) (consB (nameB 10) nilB))) yesT (bin2 subD (cE (.int 0)) (varE 10)) [9, 10])
noncomputable def e_law_energies2 : EX := (lcE (seqI (varE 0)) (tupB 2 (consB (nameB 7) (consB (nameB 8) nilB))) yesT (callE maxL (consA (bin2 addD (lstE (consA (cE (.int 0)) nilA)) e_law_energies1) nilA)) [7, 8])
noncomputable def b_law_energies3 : SX := (seqS (asgH [4] 6 (fnE r__law_due (consA (bin2 ixD (varE 0) (varE 5)) (consA (varE 2) nilA)) p__law_due.length)) (appH [4] 4 (bin2 ixD (lstE (consA (varE 6) (consA (cE .non) nilA))) (callE intL (consA (orE (bin2 isNonD (varE 6) (cE .non)) (bin2 gtD (varE 6) (varE 1))) nilA)))))
noncomputable def b_law_energies4 : SX := (seqS (asgNH [] 4 (lstE nilA)) (seqS (forH [4] (rng1I (consA (callE lenL (consA (varE 0) nilA)) nilA)) (nameB 5) b_law_energies3) (seqS (ifS (valT (bin2 eqVD (varE 4) (varE 2))) (retS (callE tupL (consA (varE 2) nilA))) nxS) (asgH [] 2 (varE 4)))))
noncomputable def s__law_energies : SX := (seqS (asgH [] 1 (callE sumL (consA e_law_energies2 nilA))) (seqS (asgH [] 2 (bin2 mulD (lstE (consA (cE (.int 0)) nilA)) (callE lenL (consA (varE 0) nilA)))) (seqS (forH [] (rng1I (consA (bin2 addD (bin2 mulD (bin2 addD (varE 1) (cE (.int 2))) (callE lenL (consA (varE 0) nilA))) (cE (.int 2))) nilA)) (nameB 3) b_law_energies4) (retS (callE tupL (consA (varE 2) nilA))))))
noncomputable def r__law_energies : FX := fnD n__law_energies s__law_energies
/-! ### _law_is_saved -/
abbrev st__law_is_saved : Stmt := top 29
abbrev n__law_is_saved : List Str := ["nodes", "k", "choices", "one"]
abbrev p__law_is_saved : List Str := ["nodes", "k"]
noncomputable def e_law_is_saved1 : EX := (lcE (seqI (fnE r__law_rounds (consA (fnE r__law_edges (consA (varE 0) (consA (varE 2) nilA)) p__law_edges.length) (consA (varE 1) nilA)) p__law_rounds.length)) (nameB 3) (valT (bin2 ltD (bin2 ixD (varE 3) (cE (.int 0))) (cE (.int 0)))) (varE 3) [3])
noncomputable def b_law_is_saved2 : SX := (ifS (valT (bin2 eqVD e_law_is_saved1 (lstE nilA))) (retS (cE (.bl true))) nxS)
noncomputable def s__law_is_saved : SX := (seqS (forH [] (seqI (fnE r__law_choices (consA (varE 0) (consA (cE (.int 0)) nilA)) p__law_choices.length)) (nameB 2) b_law_is_saved2) (retS (cE (.bl false))))
noncomputable def r__law_is_saved : FX := fnD n__law_is_saved s__law_is_saved
/-! ### _law_is_enough -/
abbrev st__law_is_enough : Stmt := top 30
abbrev n__law_is_enough : List Str := ["nodes", "found", "k", "rows", "turn", "after", "node", "energy", "owner", "ways", "to", "weight", "dues"]
abbrev p__law_is_enough : List Str := ["nodes", "found"]
noncomputable def e_law_is_enough1 : EX := (lcE (seqI (varE 9)) (tupB 2 (consB (nameB 10) (consB (nameB 11) nilB))) (valT (bin2 notNonD (bin2 ixD (varE 1) (varE 10)) (cE .non))) (tupE (consA (callE maxL (consA (cE (.int 0)) (consA (bin2 subD (bin2 ixD (varE 1) (varE 10)) (varE 11)) nilA))) (consA (varE 10) (consA (varE 11) nilA)))) [10, 11])
noncomputable def b_law_is_enough2 : SX := (seqS (ifS (orT (valT (bin2 ltD (bin2 addD (varE 7) (varE 11)) (cE (.int 0)))) (valT (bin2 isNonD (bin2 ixD (varE 1) (varE 10)) (cE .non)))) (retS (cE (.bl false))) nxS) (dputF 5 (tupE (consA (varE 10) (consA (callE minL (consA (bin2 addD (varE 7) (varE 11)) (consA (cE (.int 60)) nilA))) nilA))) (cE (.bl true))))
noncomputable def b_law_is_enough3 : SX := (seqS (unpH [5] (tupB 2 (consB (nameB 8) (consB (nameB 9) nilB))) (bin2 ixD (varE 0) (varE 6))) (seqS (ifS (valT (bin2 eqVD (varE 8) (cE (.int 0)))) (seqS (asgH [5] 12 e_law_is_enough1) (asgH [5] 9 (lstE (consA (slE (callE minL (consA (varE 12) nilA)) (someP (cE (.int 1))) noP) nilA)))) nxS) (forH [5] (seqI (varE 9)) (tupB 2 (consB (nameB 10) (consB (nameB 11) nilB))) b_law_is_enough2)))
noncomputable def b_law_is_enough4 : SX := (seqS (asgNH [3] 5 newT) (seqS (forK [5] 3 (tupB 2 (consB (nameB 6) (consB (nameB 7) nilB))) b_law_is_enough3) (mvS 3 5)))
noncomputable def b_law_is_enough5 : SX := (ifS (valT (bin2 notNonD (bin2 ixD (varE 1) (varE 2)) (cE .non))) (seqS (asgNH [] 3 (disp1T (tupE (consA (varE 2) (consA (bin2 ixD (varE 1) (varE 2)) nilA))) (cE (.bl true)))) (forH [3] (rng1I (consA (cE (.int 12)) nilA)) (nameB 4) b_law_is_enough4)) nxS)
noncomputable def s__law_is_enough : SX := (seqS (forH [] (rng1I (consA (callE lenL (consA (varE 0) nilA)) nilA)) (nameB 2) b_law_is_enough5) (retS (cE (.bl true))))
noncomputable def r__law_is_enough : FX := fnD n__law_is_enough s__law_is_enough
/-! ### _law_told -/
abbrev st__law_told : Stmt := top 31
abbrev n__law_told : List Str := ["call", "one", "other", "e"]
abbrev p__law_told : List Str := ["call", "one", "other"]
/-! ### _law_case -/
abbrev st__law_case : Stmt := top 32
abbrev n__law_case : List Str := ["bag", "weighing", "nodes", "found", "turn", "place", "near", "dues", "bad", "odd", "wrong", "k"]
abbrev p__law_case : List Str := ["bag"]
noncomputable def e_law_case1 : EX := (lcE (rng1I (consA (callE lenL (consA (varE 2) nilA)) nilA)) (nameB 11) (valT (bin2 neVD (bin2 notNonD (bin2 ixD (varE 3) (varE 11)) (cE .non)) (fnE r__law_is_saved (consA (varE 2) (consA (varE 11) nilA)) p__law_is_saved.length))) (varE 11) [11])
noncomputable def e_law_case2 : EX := (lcE (rng1I (consA (callE lenL (consA (varE 2) nilA)) nilA)) (nameB 11) yesT (fnE r__law_due (consA (bin2 ixD (varE 2) (varE 11)) (consA (varE 6) nilA)) p__law_due.length) [11])
noncomputable def e_law_case3 : EX := (lcE (rng1I (consA (callE lenL (consA (varE 2) nilA)) nilA)) (nameB 11) (andT (valT (bin2 notNonD (bin2 ixD (varE 6) (varE 11)) (cE .non))) (orT (valT (bin2 isNonD (bin2 ixD (varE 7) (varE 11)) (cE .non))) (valT (bin2 ltD (bin2 ixD (varE 6) (varE 11)) (bin2 ixD (varE 7) (varE 11)))))) (varE 11) [11])
noncomputable def b_law_case4 : SX := (seqS (asgH [] 5 (fnE r__law_draw (consA (varE 0) (consA (callE lenL (consA (varE 2) nilA)) nilA)) p__law_draw.length)) (seqS (asgH [] 6 (bin2 addD (bin2 addD (slE (varE 3) noP (someP (varE 5))) (tupE (consA (bin2 ixD (lstE (consA (cE .non) (consA (fnE r__law_draw (consA (varE 0) (consA (cE (.int 9)) nilA)) p__law_draw.length) nilA))) (fnE r__law_draw (consA (varE 0) (consA (cE (.int 2)) nilA)) p__law_draw.length)) nilA))) (slE (varE 3) (someP (bin2 addD (varE 5) (cE (.int 1)))) noP))) (seqS (asgH [] 7 e_law_case2) (seqS (asgH [] 8 e_law_case3) (ifS (valT (bin2 neVD (toldE r_judge_energies (consA (varE 1) (consA (varE 6) nilA))) (bin2 ixD (lstE (consA (cE .non) (consA (cE (.str "due")) nilA))) (callE intL (consA (bin2 neVD (varE 8) (lstE nilA)) nilA))))) (retS (cE (.bl false))) nxS)))))
noncomputable def s__law_case : SX := (seqS (asgH [] 1 (fnE r__law_weighing (consA (varE 0) (consA (cE (.int 6)) (consA (cE (.int 4)) nilA))) p__law_weighing.length)) (seqS (asgH [] 2 (bin2 ixD (varE 1) (cE (.int 1)))) (seqS (asgH [] 3 (fnE r_energies (consA (varE 1) nilA) p_energies.length)) (seqS (ifS (orT (valT (bin2 notBlD (fnE r_is_weighing (consA (varE 1) nilA) p_is_weighing.length) (cE (.bl true)))) (orT (valT (bin2 neVD (varE 3) (fnE r__law_energies (consA (varE 2) nilA) p__law_energies.length))) (notT (valT (fnE r__law_is_enough (consA (varE 2) (consA (varE 3) nilA)) p__law_is_enough.length))))) (retS (cE (.bl false))) nxS) (seqS (ifS (orT (valT (bin2 neVD e_law_case1 (lstE nilA))) (valT (bin2 notNonD (fnE r_judge_energies (consA (varE 1) (consA (varE 3) nilA)) p_judge_energies.length) (cE .non)))) (retS (cE (.bl false))) nxS) (seqS (forH [] (rng1I (consA (cE (.int 3)) nilA)) (nameB 4) b_law_case4) (seqS (asgH [] 9 (bin2 ixD (lstE (consA (cE .non) (consA (tupE (consA (cE (.str "weighing")) (consA (tupE nilA) nilA))) (consA (tupE (consA (cE (.str "weighings")) (consA (varE 2) nilA))) (consA (tupE (consA (cE (.str "weighing")) (consA (bin2 addD (varE 2) (tupE (consA (tupE (consA (cE (.int 0)) (consA (tupE nilA) nilA))) nilA))) nilA))) (consA (tupE (consA (cE (.str "weighing")) (consA (bin2 addD (varE 2) (tupE (consA (tupE (consA (cE (.int 2)) (consA (tupE (consA (tupE (consA (cE (.int 0)) (consA (cE (.int 1)) nilA))) nilA)) nilA))) nilA))) nilA))) (consA (tupE (consA (cE (.str "weighing")) (consA (bin2 addD (varE 2) (tupE (consA (tupE (consA (cE (.int 0)) (consA (tupE (consA (tupE (consA (cE (.int 0)) (consA (cE (.int 21)) nilA))) nilA)) nilA))) nilA))) nilA))) (consA (tupE (consA (cE (.str "weighing")) (consA (bin2 addD (varE 2) (tupE (consA (tupE (consA (cE (.int 0)) (consA (tupE (consA (tupE (consA (cE (.int 0)) (consA (cE (.int 1)) nilA))) (consA (tupE (consA (cE (.int 0)) (consA (cE (.int 2)) nilA))) nilA))) nilA))) nilA))) nilA))) (consA (tupE (consA (cE (.str "weighing")) (consA (bin2 addD (varE 2) (tupE (consA (tupE (consA (cE (.int 1)) (consA (tupE (consA (tupE (consA (bin2 addD (callE lenL (consA (varE 2) nilA)) (cE (.int 1))) (consA (cE (.int 0)) nilA))) nilA)) nilA))) nilA))) nilA))) (consA (tupE (consA (cE (.str "weighing")) (consA (bin2 addD (varE 2) (tupE (consA (tupE (consA (cE (.int 0)) (consA (tupE (consA (tupE (consA (cE (.int 0)) (consA (cE (.bl true)) nilA))) nilA)) nilA))) nilA))) nilA))) nilA)))))))))) (fnE r__law_draw (consA (varE 0) (consA (cE (.int 9)) nilA)) p__law_draw.length))) (seqS (asgH [] 10 (bin2 ixD (lstE (consA (cE .non) (consA (slE (varE 3) (someP (cE (.int 1))) noP) (consA (callE listL (consA (varE 3) nilA)) (consA (bin2 addD (tupE (consA (cE (.bl true)) nilA)) (slE (varE 3) (someP (cE (.int 1))) noP)) (consA (bin2 addD (tupE (consA (un1 negD (cE (.int 1))) nilA)) (slE (varE 3) (someP (cE (.int 1))) noP)) nilA)))))) (fnE r__law_draw (consA (varE 0) (consA (cE (.int 5)) nilA)) p__law_draw.length))) (retS (andE (bin2 isBlD (fnE r_is_weighing (consA (varE 9) nilA) p_is_weighing.length) (cE (.bl false))) (andE (bin2 eqVD (toldE r_judge_energies (consA (varE 9) (consA (varE 3) nilA))) (cE (.int 0))) (bin2 eqVD (toldE r_judge_energies (consA (varE 1) (consA (varE 10) nilA))) (cE (.str "form"))))))))))))))
noncomputable def r__law_case : FX := fnD n__law_case s__law_case
/-! ### law -/
abbrev st_law : Stmt := top 33
abbrev n_law : List Str := ["script", "k"]
abbrev p_law : List Str := ["script"]
noncomputable def t_law : TX := (orT (valT (bin2 neVD (lstE (consA (cE (.int 24)) (consA (cE (.int 20)) nilA))) (lstE (consA (cE (.int 24)) (consA (cE (.int 20)) nilA))))) (valT (bin2 notBlD (fnE r_is_weighing (consA (tupE (consA (cE (.str "weighing")) (consA (bin2 mulD (tupE (consA (tupE (consA (cE (.int 0)) (consA (tupE (consA (tupE (consA (cE (.int 0)) (consA (cE (.int 20)) nilA))) nilA)) nilA))) nilA)) (cE (.int 25))) nilA))) nilA) p_is_weighing.length) (cE (.bl false)))))
abbrev st_ini_BadGame : Stmt := inClass (top 2) 0
abbrev st_ini_BadPaper : Stmt := inClass (top 3) 0
/-- what the written part holds -/
structure Txt (K : PySem.W.Frag) (mg : Str → Option Value) where
  d_is_integer : DefAt K mg "is_integer" st_is_integer p_is_integer
  d_is_way : DefAt K mg "is_way" st_is_way p_is_way
  d_is_weighing : DefAt K mg "is_weighing" st_is_weighing p_is_weighing
  d_look_at : DefAt K mg "look_at" st_look_at p_look_at
  d_due_of : DefAt K mg "due_of" st_due_of p_due_of
  d_credits_of : DefAt K mg "credits_of" st_credits_of p_credits_of
  d_energies : DefAt K mg "energies" st_energies p_energies
  d_judge_energies : DefAt K mg "judge_energies" st_judge_energies p_judge_energies
  d__law_bag : DefAt K mg "_law_bag" st__law_bag p__law_bag
  d__law_draw : DefAt K mg "_law_draw" st__law_draw p__law_draw
  d__law_weighing : DefAt K mg "_law_weighing" st__law_weighing p__law_weighing
  d__law_choices : DefAt K mg "_law_choices" st__law_choices p__law_choices
  d__law_edges : DefAt K mg "_law_edges" st__law_edges p__law_edges
  d__law_rounds : DefAt K mg "_law_rounds" st__law_rounds p__law_rounds
  d__law_due : DefAt K mg "_law_due" st__law_due p__law_due
  d__law_energies : DefAt K mg "_law_energies" st__law_energies p__law_energies
  d__law_is_saved : DefAt K mg "_law_is_saved" st__law_is_saved p__law_is_saved
  d__law_is_enough : DefAt K mg "_law_is_enough" st__law_is_enough p__law_is_enough
  d__law_told : DefAt K mg "_law_told" st__law_told p__law_told
  d__law_case : DefAt K mg "_law_case" st__law_case p__law_case
  d_law : DefAt K mg "law" st_law p_law
  x_BadGame : ExcDef K mg "BadGame" "BadGame.__init__" "place" st_ini_BadGame ["self", "place"]
  x_BadPaper : ExcDef K mg "BadPaper" "BadPaper.__init__" "word" st_ini_BadPaper ["self", "word"]
  b_all : mg "all" = none
  b_bool : mg "bool" = none
  b_dict : mg "dict" = none
  b_enumerate : mg "enumerate" = none
  b_int : mg "int" = none
  b_isinstance : mg "isinstance" = none
  b_len : mg "len" = none
  b_list : mg "list" = none
  b_max : mg "max" = none
  b_min : mg "min" = none
  b_range : mg "range" = none
  b_sorted : mg "sorted" = none
  b_sum : mg "sum" = none
  b_tuple : mg "tuple" = none
  b_zip : mg "zip" = none
  t_MOST_WEIGHED : Tok
  g_MOST_WEIGHED : mg "MOST_WEIGHED" = some (.int 24 t_MOST_WEIGHED)
  t_MOST_WEIGHT : Tok
  g_MOST_WEIGHT : mg "MOST_WEIGHT" = some (.int 20 t_MOST_WEIGHT)
  no10 : PySem.W.exmOne K (.ref x_BadPaper.C) (.ref x_BadGame.C) = some false
/-- the classes of exceptions -/
def Txt.xc {K : PySem.W.Frag} {mg : Str → Option Value} (T : Txt K mg) (c : Nat) : Option (Addr × Option Str) := if c = 0 then some (T.x_BadGame.C, some "place") else if c = 1 then some (T.x_BadPaper.C, some "word") else none
end K80

/-! K80f: what the defs compute, in plain words: forms, dues. -/
namespace K80
open PySem PySem.Spec L2 RZ VS
open PyProof.Rows hiding St

abbrev Way := Int × Int
abbrev Nd := Int × List Way
def encW (w : Way) : D := .tup [.int w.1, .int w.2]
def encN (n : Nd) : D := .tup [.int n.1, .tup (n.2.map encW)]
def encNs (ns : List Nd) : D := .tup (ns.map encN)
def encG (ns : List Nd) : D := .tup [.str "weighing", encNs ns]
def encO : Option Int → D
  | none => .non
  | some i => .int i
structure Good (ns : List Nd) : Prop where
  l1 : 1 ≤ ns.length
  l6 : ns.length ≤ 6
  own : ∀ n ∈ ns, n.1 = 0 ∨ n.1 = 1
  ne : ∀ n ∈ ns, n.2 ≠ []
  few : ∀ n ∈ ns, n.2.length ≤ 3
  way : ∀ n ∈ ns, ∀ w ∈ n.2, 0 ≤ w.1 ∧ w.1 < ns.length ∧ -4 ≤ w.2 ∧ w.2 ≤ 4
  srt : ∀ n ∈ ns, n.2.Pairwise fun a b => a.1 < b.1
theorem is_integer_int (v lo hi : Int) : r_is_integer [.int v, .int lo, .int hi] = M.ret (.bl (decide (lo ≤ v) && decide (v ≤ hi))) := by
  simp [r_is_integer, s_is_integer, startE, cmpI]
  by_cases h : lo ≤ v <;> simp [h, cmpI]
theorem is_integer_bl (v : Bool) (lo hi : D) : r_is_integer [.bl v, lo, hi] = M.ret (.bl false) := by
  simp [r_is_integer, s_is_integer, startE]
theorem is_way_eq (w : Way) (many : Int) : r_is_way [encW w, .int many] = M.ret (.bl (decide (0 ≤ w.1 ∧ w.1 < many ∧ -20 ≤ w.2 ∧ w.2 ≤ 20))) := by
  simp [r_is_way, s_is_way, startE, encW, is_integer_int]
  by_cases h1 : 0 ≤ w.1 <;> by_cases h2 : w.1 < many <;> simp [h1, h2, Int.le_sub_one_iff]
theorem is_way_bl (a : Int) (b : Bool) (many : Int) : r_is_way [.tup [.int a, .bl b], .int many] = M.ret (.bl false) := by
  simp [r_is_way, s_is_way, startE, is_integer_int, is_integer_bl]
def okWay (many : Int) (w : Way) : Bool := decide (0 ≤ w.1 ∧ w.1 < many ∧ -20 ≤ w.2 ∧ w.2 ≤ 20)
def up (ws : List Way) : Bool := (ws.zip ws.tail).all fun p => decide (p.1.1 < p.2.1)
def chk (many : Int) (n : Nd) : Bool := decide (0 ≤ n.1 ∧ n.1 ≤ 1) && (decide (n.2 ≠ []) && (n.2.all (okWay many) && up n.2))
theorem weigh1 (o : D) (ws : List Way) (hl : ws.length ≤ 1000) (many : Int) (v : D) (x3 x4 x5 : Option D) : e_is_weighing1 [some v, some (.int many), some (.tup [o, .tup (ws.map encW)]), x3, x4, x5] = M.ret (.lst ((ws.map (okWay many)).map D.bl)) := by
  unfold e_is_weighing1
  rw [lc_runA encW (fun w => .bl (okWay many w)) ws (by simp) (Nat.le_trans hl (by decide)) fun w hw => ⟨_, rfl, by simp [is_way_eq, okWay]⟩, List.map_map]
  rfl
theorem weigh2 (o : D) (ws : List Way) (hl : ws.length ≤ 1000) (many : Int) (v : D) (x3 x4 x5 : Option D) : e_is_weighing2 [some v, some (.int many), some (.tup [o, .tup (ws.map encW)]), x3, x4, x5] = M.ret (.lst (((ws.zip ws.tail).map fun p => decide (p.1.1 < p.2.1)).map D.bl)) := by
  unfold e_is_weighing2
  have hz : (ws.zip ws.tail).length ≤ line := by
    rw [List.length_zip]
    have : min ws.length ws.tail.length ≤ ws.length := Nat.min_le_left _ _
    unfold line
    omega
  rw [lc_runA (fun p : Way × Way => D.tup [encW p.1, encW p.2]) (fun p => .bl (decide (p.1.1 < p.2.1))) (ws.zip ws.tail) (by simp [← zipD_map]) hz fun p hp => ⟨[(4, encW p.1), (5, encW p.2)], rfl, by simp [encW]⟩, List.map_map]
  rfl
theorem node_turn (n : Nd) (hl : n.2.length ≤ 1000) (many : Int) (v : D) (x3 x4 x5 : Option D) : b_is_weighing3 [some v, some (.int many), some (encN n), x3, x4, x5] = if chk many n = true then M.ret (.nx [some v, some (.int many), some (encN n), x3, x4, x5]) else M.ret (.rt (.bl false)) := by
  unfold b_is_weighing3 chk up encN
  by_cases h1 : n.1 < 0 ∨ 1 < n.1
  · have h1' : ¬ (0 ≤ n.1 ∧ n.1 ≤ 1) := by omega
    simp [h1, h1', is_integer_int]
  · have h1' : 0 ≤ n.1 ∧ n.1 ≤ 1 := by omega
    by_cases h2 : n.2 = []
    · simp [h1, h1', h2, is_integer_int]
    · simp only [seqS_eq, ifS_eq, orT_eq, notT_eq, valT_eq, isaE_eq, varE_eq, callE_eq, consA_eq, nilA_eq, bin2_eq, cE_eq, fnE_eq]
      simp [h1, h1', h2, is_integer_int, weigh1 _ n.2 hl, weigh2 _ n.2 hl, -List.map_map]
      by_cases h3 : n.2.all (okWay many) = true
      · by_cases h4 : ((n.2.zip n.2.tail).all fun p => decide (p.1.1 < p.2.1)) = true
        · simp [h3, h4]
          exact fun h => absurd (h h1'.1 h1'.2) h2
        · simp [h3, h4]
      · simp [h3]
theorem chk_of {ns : List Nd} (h : Good ns) {many : Int} (hm : ns.length ≤ many) : ∀ n ∈ ns, chk many n = true := fun n hn => by
  have h1 := h.own n hn
  have h2 := h.ne n hn
  have h3 : n.2.all (okWay many) = true := List.all_eq_true.mpr fun w hw => by
    have := h.way n hn w hw
    unfold okWay
    rw [decide_eq_true_eq]
    omega
  have h4 : up n.2 = true := by
    have p := h.srt n hn
    unfold up
    generalize n.2 = ws at p
    induction ws with
    | nil => rfl
    | cons a r ih =>
      cases r with
      | nil => rfl
      | cons b r =>
        have p2 := List.pairwise_cons.mp p
        have := ih p2.2
        simp only [List.tail_cons, List.zip_cons_cons, List.all_cons, Bool.and_eq_true, decide_eq_true_eq] at this ⊢
        exact ⟨p2.1 b List.mem_cons_self, this⟩
  unfold chk
  rw [h3, h4]
  simp [h2]
  omega
/-- nodes that pass, then what follows -/
theorem weigh_loop (ns : List Nd) (hk : ∀ n ∈ ns, n.2.length ≤ 1000) (many : Int) (hc : ∀ n ∈ ns, chk many n = true) (es : List D) (v : D) (x2 x3 x4 x5 : Option D) (g : Bag) :
    ∃ x2', forGo [] (nameB 2) b_is_weighing3 (ns.map encN ++ es) [some v, some (.int many), x2, x3, x4, x5] g = forGo [] (nameB 2) b_is_weighing3 es [some v, some (.int many), x2', x3, x4, x5] g := by
  obtain ⟨e, g', h1, ⟨y, rfl⟩, rfl⟩ := for_run_on (O := []) (bd := nameB 2) (ρ := b_is_weighing3) (fun _ e g' => (∃ y, e = [some v, some (.int many), y, x3, x4, x5]) ∧ g' = g) es (ns.map encN) 0 [some v, some (.int many), x2, x3, x4, x5] g ⟨⟨x2, rfl⟩, rfl⟩ (by
    rintro i d e g1 hd ⟨⟨y, rfl⟩, rfl⟩
    rw [List.getElem?_map] at hd
    obtain ⟨n, hn, rfl⟩ := Option.map_eq_some_iff.mp hd
    have hm := List.mem_of_getElem? hn
    refine ⟨_, rfl, rfl, _, g1, .inl ?_, ⟨some (encN n), rfl⟩, rfl⟩
    show b_is_weighing3 [some v, some (.int many), some (encN n), x3, x4, x5] g1 = _
    rw [node_turn n (hk n hm), if_pos (hc n hm)]
    rfl)
  exact ⟨y, h1⟩
theorem weigh_ok {ns : List Nd} (h : Good ns) : r_is_weighing [encG ns] = M.ret (.bl true) := by
  funext g
  obtain ⟨y, hy⟩ := weigh_loop ns (fun n hn => by have := h.few n hn; omega) ns.length (chk_of h (Int.le_refl _)) [] (encG ns) none none none none g
  rw [List.append_nil] at hy
  have h1 := h.l1
  have h6 := h.l6
  simp only [encG, encNs] at hy
  simp [r_is_weighing, s_is_weighing, startE, encG, encNs, cmpI]
  rw [if_pos (by omega), if_neg (by omega), bnd_okM hy]
  rfl
theorem weigh_bad {ns : List Nd} (h : Good ns) (bad : D) (hb : b_is_weighing3 [some (.tup [.str "weighing", .tup (ns.map encN ++ [bad])]), some (.int (ns.length + 1)), some bad, none, none, none] = M.ret (.rt (.bl false))) :
    r_is_weighing [.tup [.str "weighing", .tup (ns.map encN ++ [bad])]] = M.ret (.bl false) := by
  funext g
  obtain ⟨y, hy⟩ := weigh_loop ns (fun n hn => by have := h.few n hn; omega) (ns.length + 1) (chk_of h (by omega)) [bad] (.tup [.str "weighing", .tup (ns.map encN ++ [bad])]) none none none none g
  have h1 := h.l1
  have h6 := h.l6
  have e : forGo [] (nameB 2) b_is_weighing3 [bad] [some (.tup [.str "weighing", .tup (ns.map encN ++ [bad])]), some (.int (ns.length + 1)), y, none, none, none] g = .ok (.rt (.bl false)) g := by
    show M.bnd (M.ofO (nameB 2 bad)) (fun l => if outO [] l = true then M.bnd (b_is_weighing3 (setsE _ l)) (goS (forGo [] (nameB 2) b_is_weighing3 [])) else M.bad) g = _
    simp only [nameB_eq, ofO_someM, bnd_ret]
    rw [if_pos (show outO [] [(2, bad)] = true from rfl)]
    show M.bnd (b_is_weighing3 [some (.tup [.str "weighing", .tup (ns.map encN ++ [bad])]), some (.int (ns.length + 1)), some bad, none, none, none]) _ g = _
    rw [hb]
    rfl
  rw [e] at hy
  simp [r_is_weighing, s_is_weighing, startE, cmpI]
  rw [if_pos (by omega), if_neg (by omega), bnd_okM hy]
  rfl
theorem weigh_non : r_is_weighing [.non] = M.ret (.bl false) := by
  simp [r_is_weighing, s_is_weighing, startE]
theorem weigh_word {ns : List Nd} : r_is_weighing [.tup [.str "weighings", encNs ns]] = M.ret (.bl false) := by
  have e : ¬ ("weighings" : Str) = "weighing" := by decide +kernel
  simp [r_is_weighing, s_is_weighing, startE, e]
theorem weigh_none : r_is_weighing [.tup [.str "weighing", .tup []]] = M.ret (.bl false) := by
  simp [r_is_weighing, s_is_weighing, startE, cmpI]
/-- a bad last node of the common form -/
theorem weigh_badN {ns : List Nd} (h : Good ns) (n : Nd) (hl : n.2.length ≤ 1000) (hb : chk (ns.length + 1) n = false) : r_is_weighing [.tup [.str "weighing", .tup (ns.map encN ++ [encN n])]] = M.ret (.bl false) :=
  weigh_bad h _ (by rw [node_turn n hl, hb]; rfl)
theorem weigh_true {ns : List Nd} (h : Good ns) : r_is_weighing [.tup [.str "weighing", .tup (ns.map encN ++ [.tup [.int 0, .tup [.tup [.int 0, .bl true]]]])]] = M.ret (.bl false) := by
  refine weigh_bad h _ ?_
  have e : ∀ v : D, e_is_weighing1 [some v, some (.int (ns.length + 1)), some (.tup [.int 0, .tup [.tup [.int 0, .bl true]]]), none, none, none] = M.ret (.lst [.bl false]) := fun v => by
    unfold e_is_weighing1
    rw [lc_runA (fun _ : Unit => .tup [.int 0, .bl true]) (fun _ => .bl false) [()] (by simp) (by decide) fun w hw => ⟨_, rfl, by simp [is_way_bl]⟩]
    rfl
  simp [b_is_weighing3, is_integer_int, e]
  rfl
end K80

/-! K80g: dues. -/
namespace K80
open PySem PySem.Spec L2 RZ VS
open PyProof.Rows hiding St

theorem alikeB_ints (ns : List Int) : alikeB ((ns.map D.int).map toPy) = true := by
  refine List.all_eq_true.mpr fun d hd => List.all_eq_true.mpr fun e he => ?_
  rw [List.map_map] at hd he
  obtain ⟨i, _, rfl⟩ := List.mem_map.mp hd
  obtain ⟨j, _, rfl⟩ := List.mem_map.mp he
  rfl
theorem minOk_ints (ns : List Int) : minOk (ns.map D.int) := by
  refine ⟨alikeB_ints ns, ?_, ?_, ?_⟩
  · rw [List.map_map]
    refine List.all_eq_true.mpr fun d hd => ?_
    obtain ⟨i, _, rfl⟩ := List.mem_map.mp hd
    rfl
  · induction ns with
    | nil => rfl
    | cons n r ih => simpa [PyData.plainAll, toPy, PyData.plain] using ih
  · have : PyData.depthAll ((ns.map D.int).map toPy) = 0 := by
      induction ns with
      | nil => rfl
      | cons n r ih => simpa [PyData.depthAll, toPy, PyData.depth] using ih
    omega
@[simp] theorem minL_ints (n : Int) (ns : List Int) : minL [.lst (.int n :: ns.map D.int)] = some (.int (ns.foldl min n)) := by
  have h : minOk (.int n :: ns.map D.int) := minOk_ints (n :: ns)
  show (if minOk (.int n :: ns.map D.int) then some (minOf (.int n) (ns.map D.int)) else none) = _
  rw [if_pos h]
  have e : toPy (minOf (.int n) (ns.map D.int)) = toPy (.int (ns.foldl min n)) := by
    rw [minOf_toPy, List.map_map]
    exact PySem.W.minD_ints n ns
  have hm := minOf_mem (ns.map D.int) (.int n)
  have hp : (toPy (minOf (.int n) (ns.map D.int))).plain = true := by rw [e]; rfl
  rw [toPy_inj _ _ hp e]
@[simp] theorem maxL_ints (n : Int) (ns : List Int) : maxL [.lst (.int n :: ns.map D.int)] = some (.int (ns.foldl max n)) := by
  show (intsOf ((n :: ns).map D.int)).bind _ = _
  rw [intsOf_map]
  rfl
/-- what a way asks for, where its end has an answer -/
def val (fs : List (Option Int)) (w : Way) : Option Int := (fs.getD w.1.toNat none).map fun c => max 0 (c - w.2)
def dues (ws : List Way) (fs : List (Option Int)) : List Int := ws.filterMap (val fs)
def due (n : Nd) (fs : List (Option Int)) : Option Int := if n.1 = 0 then (dues n.2 fs).min? else if (dues n.2 fs).length < n.2.length then none else (dues n.2 fs).max?
/-- a list or a tuple of answers -/
def Fd (d : D) (fs : List (Option Int)) : Prop := d = .lst (fs.map encO) ∨ d = .tup (fs.map encO)
theorem Fd.ix {d : D} {fs : List (Option Int)} (h : Fd d fs) {i : Int} (h0 : 0 ≤ i) (hi : i < fs.length) : ixD d (.int i) = some (encO (fs.getD i.toNat none)) := by
  have hl : i.toNat < fs.length := by omega
  have e : ((i.toNat : Nat) : Int) = i := Int.toNat_of_nonneg h0
  rcases h with rfl | rfl
  · rw [ixD_lst, ← e, VS.atI_nat, List.getElem?_map, List.getElem?_eq_getElem hl, List.getD_eq_getElem?_getD, Int.toNat_natCast, List.getElem?_eq_getElem hl]
    rfl
  · rw [ixD_tup, ← e, VS.atI_nat, List.getElem?_map, List.getElem?_eq_getElem hl, List.getD_eq_getElem?_getD, Int.toNat_natCast, List.getElem?_eq_getElem hl]
    rfl
theorem filterMap_form {α : Type} (v : α → Option Int) : ∀ xs : List α, (xs.filter fun x => (v x).isSome).map (fun x => D.int ((v x).getD 0)) = (xs.filterMap v).map D.int
  | [] => rfl
  | x :: xs => by
    cases h : v x with
    | none => simp [h, filterMap_form v xs]
    | some i => simp [h, filterMap_form v xs]
theorem notNonD_encO (o : Option Int) : notNonD (encO o) .non = some (.bl o.isSome) := by cases o <;> rfl
theorem due_comp (n : D) (ws : List Way) (hl : ws.length ≤ 1000) (d : D) (fs : List (Option Int)) (hd : Fd d fs) (hw : ∀ w ∈ ws, 0 ≤ w.1 ∧ w.1 < fs.length) (x2 x4 x5 x6 : Option D) :
    e_due_of1 [some n, some d, x2, some (.tup (ws.map encW)), x4, x5, x6] = M.ret (.lst ((dues ws fs).map D.int)) := by
  unfold e_due_of1 dues
  rw [lc_run encW (fun w => (val fs w).isSome) (fun w => .int ((val fs w).getD 0)) ws (by simp) (Nat.le_trans hl (by decide)) fun w hm => ⟨[(5, .int w.1), (6, .int w.2)], by simp [encW], ?_, fun hp => ?_⟩, filterMap_form]
  · have hx := hd.ix (hw w hm).1 (hw w hm).2
    simp [hx, notNonD_encO, val]
  · have hx := hd.ix (hw w hm).1 (hw w hm).2
    unfold val at hp ⊢
    cases hf : fs.getD w.1.toNat none with
    | none => rw [hf] at hp; cases hp
    | some c =>
      rw [hf] at hx
      simp [hx, encO]
theorem min_cons (a : Int) (r : List Int) : (a :: r).min? = some (r.foldl min a) := rfl
theorem max_cons (a : Int) (r : List Int) : (a :: r).max? = some (r.foldl max a) := rfl
theorem due_eq (n : Nd) (hl : n.2.length ≤ 1000) (hne : n.2 ≠ []) (d : D) (fs : List (Option Int)) (hd : Fd d fs) (hw : ∀ w ∈ n.2, 0 ≤ w.1 ∧ w.1 < fs.length) : r_due_of [encN n, d] = M.ret (encO (due n fs)) := by
  have hc := fun n0 => due_comp n0 n.2 hl d fs hd hw
  unfold due
  by_cases h0 : n.1 = 0
  · rw [if_pos h0]
    cases hq : dues n.2 fs with
    | nil => simp [r_due_of, s_due_of, startE, encN, hc, h0, hq, encO]
    | cons a r =>
      rw [min_cons]
      have h3 : ¬ (r.length : Int) + 1 = 0 := by omega
      simp [r_due_of, s_due_of, startE, encN, hc, h0, hq, h3, encO]
  · rw [if_neg h0]
    by_cases h1 : (dues n.2 fs).length < n.2.length
    · rw [if_pos h1]
      simp [r_due_of, s_due_of, startE, encN, hc, h0, h1, encO]
    · rw [if_neg h1]
      cases hq : dues n.2 fs with
      | nil =>
        rw [hq] at h1
        exact absurd (List.length_eq_zero_iff.mp (by simpa using h1)) hne
      | cons a r =>
        rw [max_cons]
        rw [hq] at h1
        have h2 : ¬ r.length + 1 < n.2.length := h1
        have h3 : ¬ (r.length : Int) + 1 < n.2.length := by omega
        simp [r_due_of, s_due_of, startE, encN, hc, h0, hq, h3, encO]
end K80

/-! K80m: the order of answers; least answers. -/
namespace K80
open VS

abbrev Fs := List (Option Int)
/-- none is the top -/
def le (o p : Option Int) : Prop := match p with
  | none => True
  | some b => ∃ a, o = some a ∧ a ≤ b
theorem le_refl (o : Option Int) : le o o := by
  cases o with
  | none => trivial
  | some a => exact ⟨a, rfl, Int.le_refl a⟩
theorem le_trans {o p q : Option Int} (h1 : le o p) (h2 : le p q) : le o q := by
  cases q with
  | none => trivial
  | some c =>
    obtain ⟨b, rfl, hb⟩ := h2
    obtain ⟨a, rfl, ha⟩ := h1
    exact ⟨a, rfl, Int.le_trans ha hb⟩
theorem le_none (o : Option Int) : le o none := trivial
theorem le_some {a b : Int} : le (some a) (some b) ↔ a ≤ b := ⟨fun ⟨x, e, h⟩ => by cases e; exact h, fun h => ⟨a, rfl, h⟩⟩
theorem le_antisymm {o p : Option Int} (h1 : le o p) (h2 : le p o) : o = p := by
  cases o with
  | none =>
    cases p with
    | none => rfl
    | some b => obtain ⟨a, e, _⟩ := h1; cases e
  | some a =>
    obtain ⟨b, rfl, hb⟩ := h2
    have := le_some.mp h1
    rw [show a = b by omega]
def at_ (f : Fs) (i : Nat) : Option Int := f.getD i none
def leF (f g : Fs) : Prop := f.length = g.length ∧ ∀ i, le (at_ f i) (at_ g i)
theorem leF.refl (f : Fs) : leF f f := ⟨rfl, fun i => le_refl _⟩
theorem leF.antisymm {f g : Fs} (h1 : leF f g) (h2 : leF g f) : f = g := by
  apply List.ext_getElem? 
  intro i
  have := le_antisymm (h1.2 i) (h2.2 i)
  unfold at_ at this
  rw [List.getD_eq_getElem?_getD, List.getD_eq_getElem?_getD] at this
  by_cases hi : i < f.length
  · have hj : i < g.length := by rw [← h1.1]; exact hi
    rw [List.getElem?_eq_getElem hi, List.getElem?_eq_getElem hj] at this ⊢
    simpa using this
  · have hj : ¬ i < g.length := by rw [← h1.1]; exact hi
    rw [List.getElem?_eq_none (Nat.le_of_not_lt hi), List.getElem?_eq_none (Nat.le_of_not_lt hj)]
theorem val_eq (f : Fs) (w : Way) : val f w = (at_ f w.1.toNat).map fun c => max 0 (c - w.2) := rfl
theorem val_mono {f g : Fs} (h : leF f g) (w : Way) : le (val f w) (val g w) := by
  have q := h.2 w.1.toNat
  rw [val_eq, val_eq]
  cases hg : at_ g w.1.toNat with
  | none => trivial
  | some b =>
    rw [hg] at q
    obtain ⟨a, ha, hab⟩ := q
    rw [ha]
    exact ⟨_, rfl, by show max 0 (a - w.2) ≤ max 0 (b - w.2); omega⟩
theorem val_nonneg {f : Fs} {w : Way} {v : Int} (h : val f w = some v) : 0 ≤ v := by
  rw [val_eq] at h
  obtain ⟨c, _, rfl⟩ := Option.map_eq_some_iff.mp h
  omega
/-! ### the least and the greatest of some ints -/
theorem min_spec {l : List Int} {m : Int} (h : l.min? = some m) : m ∈ l ∧ ∀ x ∈ l, m ≤ x := List.min?_eq_some_iff.mp h
theorem max_spec {l : List Int} {m : Int} (h : l.max? = some m) : m ∈ l ∧ ∀ x ∈ l, x ≤ m := List.max?_eq_some_iff.mp h
theorem mem_dues {ws : List Way} {f : Fs} {v : Int} : v ∈ dues ws f ↔ ∃ w ∈ ws, val f w = some v := List.mem_filterMap
theorem dues_full {ws : List Way} {f : Fs} : (dues ws f).length < ws.length ↔ ∃ w ∈ ws, val f w = none := by
  unfold dues
  induction ws with
  | nil => simp
  | cons w r ih =>
    cases h : val f w with
    | none =>
      rw [List.filterMap_cons_none h]
      have := List.length_filterMap_le (val f) r
      constructor
      · intro _; exact ⟨w, List.mem_cons_self, h⟩
      · intro _; simp only [List.length_cons]; omega
    | some v =>
      rw [List.filterMap_cons_some h]
      simp only [List.length_cons, Nat.add_lt_add_iff_right]
      rw [ih]
      constructor
      · rintro ⟨u, hu, e⟩; exact ⟨u, List.mem_cons_of_mem _ hu, e⟩
      · rintro ⟨u, hu, e⟩
        rcases List.mem_cons.mp hu with rfl | hu
        · rw [h] at e; cases e
        · exact ⟨u, hu, e⟩
/-- what a finite due says -/
theorem due0 {n : Nd} {f : Fs} (h0 : n.1 = 0) {d : Int} : due n f = some d ↔ (∃ w ∈ n.2, val f w = some d) ∧ ∀ w ∈ n.2, ∀ v, val f w = some v → d ≤ v := by
  unfold due
  rw [if_pos h0, List.min?_eq_some_iff]
  constructor
  · rintro ⟨h1, h2⟩
    exact ⟨mem_dues.mp h1, fun w hw v hv => h2 v (mem_dues.mpr ⟨w, hw, hv⟩)⟩
  · rintro ⟨h1, h2⟩
    refine ⟨mem_dues.mpr h1, fun v hv => ?_⟩
    obtain ⟨w, hw, e⟩ := mem_dues.mp hv
    exact h2 w hw v e
theorem due1 {n : Nd} {f : Fs} (h0 : n.1 ≠ 0) {d : Int} : due n f = some d ↔ (∃ w ∈ n.2, val f w = some d) ∧ ∀ w ∈ n.2, ∃ v, val f w = some v ∧ v ≤ d := by
  unfold due
  rw [if_neg h0]
  by_cases hl : (dues n.2 f).length < n.2.length
  · rw [if_pos hl]
    obtain ⟨w, hw, e⟩ := dues_full.mp hl
    constructor
    · intro z; cases z
    · rintro ⟨_, h2⟩
      obtain ⟨v, hv, _⟩ := h2 w hw
      rw [e] at hv; cases hv
  · rw [if_neg hl, List.max?_eq_some_iff]
    have full : ∀ w ∈ n.2, ∃ v, val f w = some v := fun w hw => by
      cases e : val f w with
      | none => exact absurd (dues_full.mpr ⟨w, hw, e⟩) hl
      | some v => exact ⟨v, rfl⟩
    constructor
    · rintro ⟨h1, h2⟩
      refine ⟨mem_dues.mp h1, fun w hw => ?_⟩
      obtain ⟨v, hv⟩ := full w hw
      exact ⟨v, hv, h2 v (mem_dues.mpr ⟨w, hw, hv⟩)⟩
    · rintro ⟨h1, h2⟩
      refine ⟨mem_dues.mpr h1, fun v hv => ?_⟩
      obtain ⟨w, hw, e⟩ := mem_dues.mp hv
      obtain ⟨u, hu, hle⟩ := h2 w hw
      rw [e] at hu
      cases hu
      exact hle
/-- there is a least, a greatest -/
theorem due0_some {n : Nd} {f : Fs} (h0 : n.1 = 0) {w : Way} (hw : w ∈ n.2) {v : Int} (hv : val f w = some v) : ∃ d, due n f = some d ∧ d ≤ v := by
  cases e : due n f with
  | none =>
    unfold due at e
    rw [if_pos h0] at e
    have := List.min?_eq_none_iff.mp e
    have hm : v ∈ dues n.2 f := mem_dues.mpr ⟨w, hw, hv⟩
    rw [this] at hm
    cases hm
  | some d => exact ⟨d, rfl, ((due0 h0).mp e).2 w hw v hv⟩
theorem due1_some {n : Nd} {f : Fs} (h0 : n.1 ≠ 0) (hne : n.2 ≠ []) {b : Int} (h : ∀ w ∈ n.2, ∃ v, val f w = some v ∧ v ≤ b) : ∃ d, due n f = some d ∧ d ≤ b := by
  have hl : ¬ (dues n.2 f).length < n.2.length := fun z => by
    obtain ⟨w, hw, e⟩ := dues_full.mp z
    obtain ⟨v, hv, _⟩ := h w hw
    rw [e] at hv; cases hv
  cases e : due n f with
  | none =>
    unfold due at e
    rw [if_neg h0, if_neg hl] at e
    have := List.max?_eq_none_iff.mp e
    rw [this] at hl
    exact absurd (List.length_eq_zero_iff.mp (by simpa using hl)) hne
  | some d =>
    obtain ⟨w, hw, hv⟩ := ((due1 h0).mp e).1
    obtain ⟨v, hv2, hle⟩ := h w hw
    rw [hv] at hv2
    cases hv2
    exact ⟨d, rfl, hle⟩
theorem due_mono {n : Nd} {f g : Fs} (hne : n.2 ≠ []) (h : leF f g) : le (due n f) (due n g) := by
  cases e : due n g with
  | none => trivial
  | some d =>
    by_cases h0 : n.1 = 0
    · obtain ⟨w, hw, hv⟩ := ((due0 h0).mp e).1
      have := val_mono h w
      rw [hv] at this
      obtain ⟨a, ha, hle⟩ := this
      obtain ⟨x, hx, hxl⟩ := due0_some h0 hw ha
      exact ⟨x, hx, Int.le_trans hxl hle⟩
    · have q := ((due1 h0).mp e).2
      obtain ⟨x, hx, hxl⟩ := due1_some (f := f) h0 hne (b := d) fun w hw => by
        obtain ⟨v, hv, hle⟩ := q w hw
        have := val_mono h w
        rw [hv] at this
        obtain ⟨a, ha, hle2⟩ := this
        exact ⟨a, ha, Int.le_trans hle2 hle⟩
      exact ⟨x, hx, hxl⟩
theorem due_nonneg {n : Nd} {f : Fs} {d : Int} (h : due n f = some d) : 0 ≤ d := by
  by_cases h0 : n.1 = 0
  · obtain ⟨w, hw, hv⟩ := ((due0 h0).mp h).1
    exact val_nonneg hv
  · obtain ⟨w, hw, hv⟩ := ((due1 h0).mp h).1
    exact val_nonneg hv
def clip (m : Int) (o : Option Int) : Option Int := match o with
  | none => none
  | some d => if m < d then none else some d
theorem clip_mono {m : Int} {o p : Option Int} (h : le o p) : le (clip m o) (clip m p) := by
  cases p with
  | none => trivial
  | some b =>
    obtain ⟨a, rfl, hab⟩ := h
    unfold clip
    by_cases hb : m < b
    · simp only [if_pos hb]; trivial
    · have ha : ¬ m < a := by omega
      simp only [if_neg hb, if_neg ha]
      exact ⟨a, rfl, hab⟩
theorem clip_some {m d : Int} {o : Option Int} : clip m o = some d ↔ o = some d ∧ d ≤ m := by
  unfold clip
  cases o with
  | none => simp
  | some x =>
    by_cases h : m < x
    · simp only [if_pos h]
      constructor
      · intro z; cases z
      · rintro ⟨z, h2⟩; cases z; omega
    · simp only [if_neg h]
      constructor
      · intro z; cases z; exact ⟨rfl, by omega⟩
      · rintro ⟨z, _⟩; exact z
/-- a bound for the dues -/
structure Pre (ns : List Nd) (m : Int) (f : Fs) : Prop where
  len : f.length = ns.length
  ok : ∀ i n, ns[i]? = some n → le (clip m (due n f)) (at_ f i)
  pos : ∀ i c, at_ f i = some c → 0 ≤ c
structure Least (ns : List Nd) (m : Int) (f : Fs) : Prop where
  pre : Pre ns m f
  low : ∀ p, Pre ns m p → leF f p
  top : ∀ i c, at_ f i = some c → c ≤ m
theorem Least.uniq {ns : List Nd} {m : Int} {f g : Fs} (hf : Least ns m f) (hg : Least ns m g) : f = g := (hf.low g hg.pre).antisymm (hg.low f hf.pre)
theorem at_set (f : Fs) (i j : Nat) (o : Option Int) (h : i < f.length) : at_ (f.set i o) j = if j = i then o else at_ f j := by
  unfold at_
  rw [List.getD_eq_getElem?_getD, List.getD_eq_getElem?_getD, List.getElem?_set]
  by_cases e : i = j
  · subst e
    simp [h]
  · have e2 : ¬ j = i := fun z => e z.symm
    simp [e, e2]
theorem at_some_lt {f : Fs} {i : Nat} {c : Int} (h : at_ f i = some c) : i < f.length := by
  unfold at_ at h
  by_cases hl : i < f.length
  · exact hl
  · rw [List.getD_eq_getElem?_getD, List.getElem?_eq_none (Nat.le_of_not_lt hl)] at h
    cases h
/-- a smaller f gets a due: still below every bound -/
theorem low_set {ns : List Nd} {m : Int} {f p : Fs} {i : Nat} {n : Nd} (hne : n.2 ≠ []) (hn : ns[i]? = some n) (hp : Pre ns m p) (h : leF f p) (hi : i < f.length) : leF (f.set i (clip m (due n f))) p := by
  refine ⟨by rw [List.length_set]; exact h.1, fun j => ?_⟩
  rw [at_set _ _ _ _ hi]
  by_cases e : j = i
  · subst e
    rw [if_pos rfl]
    exact le_trans (clip_mono (due_mono hne h)) (hp.ok j n hn)
  · rw [if_neg e]
    exact h.2 j
/-! ### how far it is to the top -/
def rk (m : Int) (o : Option Int) : Nat := match o with
  | none => 0
  | some c => (m + 1 - c).toNat
def mu (m : Int) (f : Fs) : Nat := (f.map (rk m)).sum
theorem mu_set {m : Int} : ∀ {f : Fs} {i : Nat} {o : Option Int}, i < f.length → rk m o < rk m (at_ f i) → mu m (f.set i o) < mu m f
  | [], i, o, h, _ => absurd h (Nat.not_lt_zero _)
  | a :: r, 0, o, h, hr => by
    have : at_ (a :: r) 0 = a := rfl
    rw [this] at hr
    simp only [List.set_cons_zero, mu, List.map_cons, List.sum_cons]
    omega
  | a :: r, i + 1, o, h, hr => by
    have e : at_ (a :: r) (i + 1) = at_ r i := by unfold at_; simp
    rw [e] at hr
    have ih := mu_set (f := r) (i := i) (o := o) (by simpa using h) hr
    simp only [List.set_cons_succ, mu, List.map_cons, List.sum_cons] at ih ⊢
    omega
end K80

/-! K80n: credits_of gives the least answers. -/
namespace K80
open PySem PySem.Spec L2 RZ VS
open PyProof.Rows hiding St

def neg1 (n : Nd) : Int := (n.2.map fun w => -w.2).foldl max 0
def most (ns : List Nd) : Int := (ns.map neg1).sum
/-- what the walks ask of the nodes -/
structure Fit (ns : List Nd) : Prop where
  few : ns.length ≤ 1000
  ways : ∀ n ∈ ns, n.2.length ≤ 1000
  ne : ∀ n ∈ ns, n.2 ≠ []
  to : ∀ n ∈ ns, ∀ w ∈ n.2, 0 ≤ w.1 ∧ w.1 < ns.length
theorem Good.fit {ns : List Nd} (h : Good ns) : Fit ns := ⟨by have := h.l6; omega, fun n hn => by have := h.few n hn; omega, h.ne, fun n hn w hw => ⟨(h.way n hn w hw).1, (h.way n hn w hw).2.1⟩⟩
theorem foldl_max_ge : ∀ (l : List Int) (a : Int), a ≤ l.foldl max a ∧ ∀ x ∈ l, x ≤ l.foldl max a
  | [], a => ⟨Int.le_refl a, fun _ h => nomatch h⟩
  | y :: r, a => by
    obtain ⟨h1, h2⟩ := foldl_max_ge r (max a y)
    refine ⟨by rw [List.foldl_cons]; omega, fun x hx => ?_⟩
    rw [List.foldl_cons]
    rcases List.mem_cons.mp hx with rfl | hx
    · omega
    · exact h2 x hx
theorem neg1_nonneg (n : Nd) : 0 ≤ neg1 n := (foldl_max_ge _ 0).1
theorem neg1_way {n : Nd} {w : Way} (h : w ∈ n.2) : -w.2 ≤ neg1 n := (foldl_max_ge _ 0).2 _ (List.mem_map.mpr ⟨w, h, rfl⟩)
theorem most_nonneg (ns : List Nd) : 0 ≤ most ns := by
  unfold most
  induction ns with
  | nil => exact Int.le_refl 0
  | cons n r ih =>
    have := neg1_nonneg n
    simp only [List.map_cons, List.sum_cons]
    omega
theorem cred1 (ws : List Way) (hl : ws.length ≤ 1000) (x0 x1 x2 x3 x4 x5 x6 x7 x9 : Option D) : e_credits_of1 [x0, x1, x2, x3, x4, x5, x6, x7, some (.tup (ws.map encW)), x9] = M.ret (.lst ((ws.map fun w => -w.2).map D.int)) := by
  unfold e_credits_of1
  rw [lc_runA encW (fun w => .int (-w.2)) ws (by simp) (Nat.le_trans hl (by decide)) fun w hw => ⟨[(7, .int w.1), (9, .int w.2)], by simp [encW], by simp⟩, List.map_map]
  rfl
@[simp] theorem addD_ll (xs ys : List D) (h : xs.length + ys.length ≤ line) : addD (.lst xs) (.lst ys) = some (.lst (xs ++ ys)) := by
  show (if _ then _ else _) = _
  rw [if_pos h]
theorem cred2 (ns : List Nd) (hf : Fit ns) (x1 x2 x3 x4 x5 x6 x7 x8 x9 : Option D) : e_credits_of2 [some (encNs ns), x1, x2, x3, x4, x5, x6, x7, x8, x9] = M.ret (.lst ((ns.map neg1).map D.int)) := by
  unfold e_credits_of2
  rw [lc_runA encN (fun n => .int (neg1 n)) ns (by simp [encNs]) (Nat.le_trans hf.few (by decide)) fun n hn => ⟨[(7, .int n.1), (8, .tup (n.2.map encW))], by simp [encN], ?_⟩, List.map_map]
  · rfl
  · have hl := hf.ways n hn
    have h2 : ([D.int 0] : List D).length + ((n.2.map fun w => -w.2).map D.int).length ≤ line := by
      simp only [List.length_map, List.length_cons, List.length_nil]
      unfold line
      omega
    simp only [callE_eq, consA_eq, nilA_eq, bin2_eq, lstE_eq, cE_eq, bnd_ret, wipeE_cons, wipeE_nil, List.set_cons_succ, List.set_cons_zero, setsE_cons, setsE_nil, cred1 n.2 hl, addD_ll _ _ h2, ofO_someM, List.length_cons, List.length_nil]
    simp [neg1, addD_ll _ _ h2, -List.map_map]
/-! ### a sweep -/
structure Low (ns : List Nd) (f : Fs) : Prop where
  len : f.length = ns.length
  low : ∀ p, Pre ns (most ns) p → leF f p
  pos : ∀ i c, at_ f i = some c → 0 ≤ c
  top : ∀ i c, at_ f i = some c → c ≤ most ns
def okAt (ns : List Nd) (f : Fs) (i : Nat) : Prop := ∀ n, ns[i]? = some n → le (clip (most ns) (due n f)) (at_ f i)
/-- within a sweep that began at f0 -/
structure Swp (ns : List Nd) (f0 : Fs) (k : Nat) (f : Fs) (fl : Bool) : Prop where
  low : Low ns f
  same : fl = false → f = f0 ∧ ∀ i, i < k → okAt ns f0 i
  less : fl = true → mu (most ns) f < mu (most ns) f0
theorem rk_lt {m : Int} {o p : Option Int} (hp : ∀ c, p = some c → c ≤ m) (h : ∀ c, p = some c → ∀ d, o = some d → c < d) (hn : p ≠ none) : rk m o < rk m p := by
  cases p with
  | none => exact absurd rfl hn
  | some c =>
    have h1 := hp c rfl
    cases o with
    | none => unfold rk; simp only; omega
    | some d =>
      have h2 := h c rfl d rfl
      unfold rk
      simp only
      omega
/-- an answer rises to its due -/
theorem Low.up {ns : List Nd} {f : Fs} (hfit : Fit ns) (h : Low ns f) {i : Nat} {n : Nd} (hn : ns[i]? = some n) : Low ns (f.set i (clip (most ns) (due n f))) := by
  have hi : i < f.length := by rw [h.len]; exact (List.getElem?_eq_some_iff.mp hn).1
  have hm := List.mem_of_getElem? hn
  refine ⟨by rw [List.length_set]; exact h.len, fun p hp => low_set (hfit.ne n hm) hn hp (h.low p hp) hi, fun j c hc => ?_, fun j c hc => ?_⟩
  · rw [at_set _ _ _ _ hi] at hc
    by_cases e : j = i
    · rw [if_pos e] at hc
      exact due_nonneg (clip_some.mp hc).1
    · rw [if_neg e] at hc
      exact h.pos j c hc
  · rw [at_set _ _ _ _ hi] at hc
    by_cases e : j = i
    · rw [if_pos e] at hc
      exact (clip_some.mp hc).2
    · rw [if_neg e] at hc
      exact h.top j c hc
theorem Swp.up {ns : List Nd} {f0 f : Fs} {k : Nat} {fl : Bool} (hfit : Fit ns) (h : Swp ns f0 k f fl) {n : Nd} (hn : ns[k]? = some n) {c : Int} (hc : at_ f k = some c) (hd : ∀ d, clip (most ns) (due n f) = some d → c < d) : Swp ns f0 (k + 1) (f.set k (clip (most ns) (due n f))) true := by
  have hi : k < f.length := at_some_lt hc
  refine ⟨h.low.up hfit hn, (fun z => by cases z), fun _ => ?_⟩
  have h1 : mu (most ns) (f.set k (clip (most ns) (due n f))) < mu (most ns) f := mu_set hi (rk_lt (fun a ha => h.low.top k a ha) (fun a ha d hd2 => by rw [hc] at ha; cases ha; exact hd d hd2) (by rw [hc]; exact fun z => by cases z))
  cases fl with
  | true => exact Nat.lt_trans h1 (h.less rfl)
  | false => rw [(h.same rfl).1] at h1 ⊢; exact h1
theorem Swp.stay {ns : List Nd} {f0 f : Fs} {k : Nat} {fl : Bool} (h : Swp ns f0 k f fl) (hk : okAt ns f k) : Swp ns f0 (k + 1) f fl := by
  refine ⟨h.low, fun z => ⟨(h.same z).1, fun i hi => ?_⟩, h.less⟩
  rcases Nat.lt_succ_iff_lt_or_eq.mp hi with hi | rfl
  · exact (h.same z).2 i hi
  · rw [← (h.same z).1]; exact hk
/-- one turn of a sweep -/
theorem cred_turn {ns : List Nd} (hfit : Fit ns) {f0 f : Fs} {k : Nat} {fl : Bool} (h : Swp ns f0 k f fl) {n : Nd} (hn : ns[k]? = some n) (x6 : Option D) (g : Bag) : ∃ f' fl' x6',
    b_credits_of3 [some (encNs ns), some (.int (most ns)), some (.lst (f.map encO)), some (.bl fl), some (.int k), some (encN n), x6, none, none, none] g =
      .ok (.nx [some (encNs ns), some (.int (most ns)), some (.lst (f'.map encO)), some (.bl fl'), some (.int k), some (encN n), x6', none, none, none]) g ∧ Swp ns f0 (k + 1) f' fl' := by
  have hm := List.mem_of_getElem? hn
  have hk : k < f.length := by rw [h.low.len]; exact (List.getElem?_eq_some_iff.mp hn).1
  have hx : ixD (.lst (f.map encO)) (.int k) = some (encO (at_ f k)) := (Fd.ix (d := .lst (f.map encO)) (fs := f) (.inl rfl) (i := (k : Int)) (by omega) (by omega)).trans (by rw [Int.toNat_natCast]; rfl)
  have hd : r_due_of [encN n, .lst (f.map encO)] = M.ret (encO (due n f)) := due_eq n (hfit.ways n hm) (hfit.ne n hm) _ f (.inl rfl) (fun w hw => by rw [h.low.len]; exact hfit.to n hm w hw)
  have hj : ixO f.length (.int k) = some k := by
    show ixN _ _ = _
    unfold ixN
    rw [if_pos (by omega), if_pos (by omega)]
    rfl
  cases hf : at_ f k with
  | none =>
    refine ⟨f, fl, x6, ?_, h.stay fun n' hn' => ?_⟩
    · rw [hf] at hx
      simp only [encO] at hx
      simp [b_credits_of3, hx]
      rfl
    · rw [hf]; trivial
  | some c =>
    rw [hf] at hx
    simp only [encO] at hx
    cases hdu : due n f with
    | none =>
      rw [hdu] at hd
      have hc : clip (most ns) (due n f) = none := by rw [hdu]; rfl
      refine ⟨f.set k none, true, some .non, ?_, ?_⟩
      · simp [b_credits_of3, hx, hd, encO, lstAt, hj, flat]
        rfl
      · rw [← hc]
        exact h.up hfit hn hf fun d hd => by rw [hc] at hd; cases hd
    | some d =>
      rw [hdu] at hd
      by_cases hgt : most ns < d
      · have hc : clip (most ns) (due n f) = none := by rw [hdu]; exact if_pos hgt
        refine ⟨f.set k none, true, some (.int d), ?_, ?_⟩
        · simp [b_credits_of3, hx, hd, encO, lstAt, hj, flat, hgt]
          rfl
        · rw [← hc]
          exact h.up hfit hn hf fun d hd => by rw [hc] at hd; cases hd
      · have hc : clip (most ns) (due n f) = some d := by rw [hdu]; exact if_neg hgt
        by_cases hup : c < d
        · refine ⟨f.set k (some d), true, some (.int d), ?_, ?_⟩
          · simp [b_credits_of3, hx, hd, encO, lstAt, hj, flat, hgt, hup]
            rfl
          · rw [← hc]
            exact h.up hfit hn hf fun d' hd' => by rw [hc] at hd'; cases hd'; exact hup
        · refine ⟨f, fl, some (.int d), ?_, h.stay fun n' hn' => ?_⟩
          · simp [b_credits_of3, hx, hd, encO, lstAt, hj, flat, hgt, hup]
            rfl
          · rw [hn] at hn'
            cases hn'
            rw [hc, hf]
            exact le_some.mpr (by omega)
theorem cred_sweep {ns : List Nd} (hfit : Fit ns) {f : Fs} (h : Low ns f) (x3 x4 x5 x6 : Option D) (g : Bag) : ∃ f' fl' x4' x5' x6',
    b_credits_of4 [some (encNs ns), some (.int (most ns)), some (.lst (f.map encO)), x3, x4, x5, x6, none, none, none] g =
      .ok (.nx [some (encNs ns), some (.int (most ns)), some (.lst (f'.map encO)), some (.bl fl'), x4', x5', x6', none, none, none]) g ∧ Swp ns f ns.length f' fl' := by
  obtain ⟨env', g', h1, f', fl', x4', x5', x6', rfl, rfl, h2⟩ := for_run (O := [2]) (bd := tupB 2 (consB (nameB 4) (consB (nameB 5) nilB))) (ρ := b_credits_of3)
    (fun k env g' => ∃ f' fl' x4' x5' x6', env = [some (encNs ns), some (.int (most ns)), some (.lst (f'.map encO)), some (.bl fl'), x4', x5', x6', none, none, none] ∧ g' = g ∧ Swp ns f k f' fl')
    (enumD 0 (ns.map encN)) [some (encNs ns), some (.int (most ns)), some (.lst (f.map encO)), some (.bl false), x4, x5, x6, none, none, none] g
    ⟨f, false, x4, x5, x6, rfl, rfl, h, fun _ => ⟨rfl, fun i hi => absurd hi (Nat.not_lt_zero i)⟩, (fun z => by cases z)⟩ (by
      rintro k d env g1 hd ⟨f1, fl1, y4, y5, y6, rfl, rfl, hs⟩
      rw [enumD_get, List.getElem?_map] at hd
      obtain ⟨e, he, rfl⟩ := Option.map_eq_some_iff.mp hd
      obtain ⟨n, hn, rfl⟩ := Option.map_eq_some_iff.mp he
      obtain ⟨f2, fl2, y6', hb, hs2⟩ := cred_turn hfit hs hn y6 g1
      refine ⟨[(4, .int ((0 + k : Nat) : Int)), (5, encN n)], by simp, by simp, _, g1, .inl ?_, f2, fl2, some (.int k), some (encN n), y6', rfl, rfl, hs2⟩
      rw [Nat.zero_add]
      exact hb)
  rw [enumD_length, List.length_map] at h2
  refine ⟨f', fl', x4', x5', x6', ?_, h2⟩
  have e : b_credits_of4 [some (encNs ns), some (.int (most ns)), some (.lst (f.map encO)), x3, x4, x5, x6, none, none, none] = forGo [2] (tupB 2 (consB (nameB 4) (consB (nameB 5) nilB))) b_credits_of3 (enumD 0 (ns.map encN)) [some (encNs ns), some (.int (most ns)), some (.lst (f.map encO)), some (.bl false), x4, x5, x6, none, none, none] := by
    simp [b_credits_of4, encNs]
  rw [e]
  exact h1
end K80

/-! K80o: credits_of gives the least answers. -/
namespace K80
open PySem PySem.Spec L2 RZ VS
open PyProof.Rows hiding St

theorem low_start (ns : List Nd) : Low ns (List.replicate ns.length (some 0)) := by
  have ha : ∀ i c, at_ (List.replicate ns.length (some 0)) i = some c → c = 0 := fun i c h => by
    unfold at_ at h
    rw [List.getD_eq_getElem?_getD, List.getElem?_replicate] at h
    split at h
    · simpa using h.symm
    · cases h
  refine ⟨List.length_replicate, fun p hp => ⟨by rw [List.length_replicate, hp.len], fun i => ?_⟩, fun i c h => by rw [ha i c h]; exact Int.le_refl 0, fun i c h => by rw [ha i c h]; exact most_nonneg ns⟩
  cases hpi : at_ p i with
  | none => trivial
  | some c =>
    have hi := at_some_lt hpi
    rw [hp.len] at hi
    refine ⟨0, ?_, hp.pos i c hpi⟩
    unfold at_
    rw [List.getD_eq_getElem?_getD, List.getElem?_replicate, if_pos hi]
    rfl
theorem Low.least {ns : List Nd} {f : Fs} (h : Low ns f) (hk : ∀ i, i < ns.length → okAt ns f i) : Least ns (most ns) f :=
  ⟨⟨h.len, fun i n hn => hk i (List.getElem?_eq_some_iff.mp hn).1 n hn, h.pos⟩, h.low, h.top⟩
theorem flatten_one (d : D) : ∀ k : Nat, (List.replicate k ([d] : List D)).flatten = List.replicate k d
  | 0 => rfl
  | k + 1 => by rw [List.replicate_succ, List.flatten_cons, flatten_one d k, List.replicate_succ]; rfl
theorem mulL_one (d : D) (k : Nat) (h : k ≤ 1000) : mulL (.lst [d]) (.int k) = some (.lst (List.replicate k d)) := by
  have h1 : -(2 ^ 63) ≤ (k : Int) ∧ (k : Int) < 2 ^ 63 ∧ ([d] : List D).length * k ≤ line := by
    refine ⟨by omega, by omega, ?_⟩
    simp only [List.length_cons, List.length_nil]
    unfold line
    omega
  unfold mulL
  simp only [Int.toNat_natCast, flatten_one]
  rw [if_pos h1]
theorem credits_loop {ns : List Nd} (hfit : Fit ns) (g : Bag) : ∃ f x3 x4 x5 x6, whileS (valT (varE 3)) b_credits_of4 [some (encNs ns), some (.int (most ns)), some (.lst ((List.replicate ns.length (some (0 : Int))).map encO)), some (.bl true), none, none, none, none, none, none] g = .ok (.nx [some (encNs ns), some (.int (most ns)), some (.lst (f.map encO)), x3, x4, x5, x6, none, none, none]) g ∧ Least ns (most ns) f := by
  obtain ⟨env', g', h1, f, x3, x4, x5, x6, rfl, rfl, hL⟩ := while_run (τ := valT (varE 3)) (ρ := b_credits_of4)
    (fun m env g' => ∃ f fl x4 x5 x6, env = [some (encNs ns), some (.int (most ns)), some (.lst (f.map encO)), some (.bl fl), x4, x5, x6, none, none, none] ∧ g' = g ∧ Low ns f ∧ (fl = false → ∀ i, i < ns.length → okAt ns f i) ∧ m = if fl = true then mu (most ns) f + 1 else 0)
    (fun env g' => ∃ f x3 x4 x5 x6, env = [some (encNs ns), some (.int (most ns)), some (.lst (f.map encO)), x3, x4, x5, x6, none, none, none] ∧ g' = g ∧ Least ns (most ns) f) (by
      rintro m env g1 ⟨f, fl, x4, x5, x6, rfl, rfl, hl, hok, rfl⟩
      refine ⟨fl, g1, rfl, fun ht => ?_, fun hf => ⟨f, _, x4, x5, x6, rfl, rfl, hl.least (hok hf)⟩⟩
      subst ht
      obtain ⟨f', fl', x4', x5', x6', hb, hs⟩ := cred_sweep hfit hl (some (.bl true)) x4 x5 x6 g1
      refine ⟨_, g1, if fl' = true then mu (most ns) f' + 1 else 0, .inl hb, ?_, f', fl', x4', x5', x6', rfl, rfl, hs.low, fun hz => ?_, rfl⟩
      · rw [if_pos rfl]
        cases fl' with
        | true =>
          have := hs.less rfl
          rw [if_pos rfl]
          omega
        | false => rw [if_neg (by decide)]; omega
      · rw [(hs.same hz).1]
        exact (hs.same hz).2)
    (mu (most ns) (List.replicate ns.length (some 0)) + 1) [some (encNs ns), some (.int (most ns)), some (.lst ((List.replicate ns.length (some (0 : Int))).map encO)), some (.bl true), none, none, none, none, none, none] g
    ⟨_, true, none, none, none, rfl, rfl, low_start ns, (fun z => by cases z), by rw [if_pos rfl]⟩
  exact ⟨f, x3, x4, x5, x6, h1, hL⟩
theorem credits_most {ns : List Nd} (hfit : Fit ns) : asgH [] 1 (callE sumL (consA e_credits_of2 nilA)) [some (encNs ns), none, none, none, none, none, none, none, none, none] = M.ret (.nx [some (encNs ns), some (.int (most ns)), none, none, none, none, none, none, none, none]) := by
  have hs : sumL [.lst ((ns.map neg1).map D.int)] = some (.int (most ns)) := sumL_map _
  simp only [asgH_eq, hide_nil, callE_eq, consA_eq, nilA_eq, cred2 ns hfit, bnd_ret, hs, ofO_someM, List.set_cons_succ, List.set_cons_zero]
theorem zero_mul {n : Nat} (h : n ≤ 1000) : mulL (.lst [.int 0]) (.int n) = some (.lst ((List.replicate n (some (0 : Int))).map encO)) := by
  rw [mulL_one _ _ h, List.map_replicate]
  rfl
theorem credits_zero {ns : List Nd} (hfit : Fit ns) (x1 : Option D) : asgNH [] 2 (bin2 mulL (lstE (consA (cE (.int 0)) nilA)) (callE lenL (consA (varE 0) nilA))) [some (encNs ns), x1, none, none, none, none, none, none, none, none] = M.ret (.nx [some (encNs ns), x1, some (.lst ((List.replicate ns.length (some (0 : Int))).map encO)), none, none, none, none, none, none, none]) := by
  have hlen : lenL [encNs ns] = some (.int ns.length) := by simp [encNs]
  exact asgNH_of (bin2_of (x := .lst [.int 0]) (y := .int ns.length) (by simp) (call1_of (x := encNs ns) rfl hlen) (zero_mul hfit.few))
theorem credits_end (x0 x1 x3 x4 x5 x6 x7 x8 x9 : Option D) (xs : List D) (g : Bag) : retS (callE tupL (consA (varE 2) nilA)) [x0, x1, some (.lst xs), x3, x4, x5, x6, x7, x8, x9] g = .ok (.rt (.tup xs)) g := by
  simp
  rfl
theorem credits_at {ns : List Nd} (hfit : Fit ns) (g : Bag) : ∃ f, Least ns (most ns) f ∧ r_credits_of [encNs ns] g = .ok (.tup (f.map encO)) g := by
  obtain ⟨f, x3, x4, x5, x6, h1, hL⟩ := credits_loop hfit g
  refine ⟨f, hL, ?_⟩
  refine fnD_ok (env := [some (encNs ns), none, none, none, none, none, none, none, none, none]) rfl ?_
  unfold s_credits_of
  rw [seqS_of (credits_most hfit), seqS_of (credits_zero hfit _)]
  rw [seqS_of (asgH_eq _ _ _ _)]
  refine (seqS_ok h1).trans ?_
  exact credits_end _ _ _ _ _ _ _ _ _ _ _
theorem credits_eq {ns : List Nd} (hfit : Fit ns) : ∃ f, Least ns (most ns) f ∧ r_credits_of [encNs ns] = M.ret (.tup (f.map encO)) := by
  obtain ⟨f, hL, _⟩ := credits_at hfit (0, 0, 0)
  refine ⟨f, hL, ?_⟩
  funext g
  obtain ⟨f2, hL2, h2⟩ := credits_at hfit g
  rw [h2, hL.uniq hL2]
  rfl
theorem look_ok {ns : List Nd} (h : Good ns) : r_look_at [encG ns] = M.ret .non := by
  simp [r_look_at, s_look_at, startE, weigh_ok h]
theorem energies_eq {ns : List Nd} (h : Good ns) : ∃ f, Least ns (most ns) f ∧ r_energies [encG ns] = M.ret (.tup (f.map encO)) := by
  obtain ⟨f, hL, he⟩ := credits_eq h.fit
  refine ⟨f, hL, ?_⟩
  have hl := look_ok h
  unfold encG at hl
  simp [r_energies, s_energies, startE, encG, hl, he]
end K80

/-! K80p: _law_due gives the due. -/
namespace K80
open PySem PySem.Spec L2 RZ VS
open PyProof.Rows hiding St

def rv : Option Int → List Int
  | none => [1, 0]
  | some v => [0, v]
theorem rv_ss (v u : Int) : rv (some v) ≤ rv (some u) ↔ v ≤ u := by
  rw [← List.not_lt]
  simp [rv, List.cons_lt_cons_iff]
theorem rv_ns (u : Int) : ¬ rv none ≤ rv (some u) := by
  rw [← List.not_lt]
  simp [rv, List.cons_lt_cons_iff]
def encR (l : List Int) : D := .lst (l.map D.int)
theorem toPys_ints : ∀ l : List Int, toPys (l.map D.int) = l.map PyData.int
  | [] => rfl
  | i :: r => by simp [toPys, toPy, toPys_ints r]
theorem toPy_encR (l : List Int) : toPy (encR l) = .list (l.map .int) := by
  unfold encR
  rw [toPy, toPys_ints]
theorem sort_rows {α : Type} (x : α → List Int) (ws : List α) : sortD (ws.map fun w => encR (x w)) = (ws.mergeSort fun a b => decide (x a ≤ x b)).map fun w => encR (x w) := by
  unfold sortD
  rw [List.map_mergeSort (r := fun a b => decide (x a ≤ x b))]
  intro a _ b _
  have := congrFun (congrFun (PySem.W.dataLe_rows (β := α) x) a) b
  rw [← this]
  show PySem.W.dataLe false (fun b => PyData.list ((x b).map .int)) a b = PySem.W.dataLe false toPy (encR (x a)) (encR (x b))
  rw [PySem.W.dataLe_eq, PySem.W.dataLe_eq]
  simp only [toPy_encR]
theorem sortOk_rows {α : Type} (x : α → List Int) (ws : List α) (h2 : ∀ w, (x w).length = 2) (hl : ws.length ≤ line) : sortOk (ws.map fun w => encR (x w)) := by
  have hm : (ws.map fun w => encR (x w)).map toPy = ws.map fun w => PyData.list ((x w).map .int) := by
    rw [List.map_map]
    exact List.map_congr_left fun w _ => toPy_encR _
  have pair : ∀ w, ∃ a b, x w = [a, b] := fun w => by
    have := h2 w
    match e : x w with
    | [a, b] => exact ⟨a, b, rfl⟩
    | [] => rw [e] at this; cases this
    | [a] => rw [e] at this; cases this
    | a :: b :: c :: r => rw [e] at this; simp at this
  refine ⟨?_, ?_, ?_, by rw [List.length_map]; exact hl⟩
  · rw [hm]
    refine List.all_eq_true.mpr fun d hd => List.all_eq_true.mpr fun e he => ?_
    obtain ⟨w, _, rfl⟩ := List.mem_map.mp hd
    obtain ⟨u, _, rfl⟩ := List.mem_map.mp he
    obtain ⟨a, b, ea⟩ := pair w
    obtain ⟨c, d, ec⟩ := pair u
    rw [ea, ec]
    simp [PySem.W.alike, PySem.W.alikeAll]
  · rw [hm]
    refine Bool.or_eq_true _ _ ▸ .inr (List.all_eq_true.mpr fun d hd => ?_)
    obtain ⟨w, _, rfl⟩ := List.mem_map.mp hd
    rfl
  · rw [hm]
    refine List.all_eq_true.mpr fun d hd => ?_
    obtain ⟨w, _, rfl⟩ := List.mem_map.mp hd
    obtain ⟨a, b, ea⟩ := pair w
    rw [ea]
    rfl
theorem atI_last {α : Type} (xs : List α) : atI xs (-1) = xs.getLast? := by
  unfold atI ixN
  cases xs with
  | nil => rfl
  | cons x r =>
    rw [if_neg (by omega), if_pos (by simp only [List.length_cons]; omega), List.getLast?_eq_getElem?]
    have e : (-1 + ((x :: r).length : Int)).toNat = (x :: r).length - 1 := by simp only [List.length_cons]; omega
    show (x :: r)[(-1 + ((x :: r).length : Int)).toNat]? = _
    rw [e]
def row (fs : Fs) (w : Way) : List Int := rv (val fs w)
theorem row_two (fs : Fs) (w : Way) : (row fs w).length = 2 := by
  unfold row
  cases val fs w <;> rfl
theorem due_turn (n : D) (d : D) (fs : Fs) (hd : Fd d fs) (w : Way) (hw : 0 ≤ w.1 ∧ w.1 < fs.length) (x2 x3 x7 : Option D) (xs : List D) (hl : xs.length < line) :
    b_law_due1 [some n, some d, x2, x3, some (.lst xs), some (.int w.1), some (.int w.2), x7] = M.ret (.nx [some n, some d, x2, x3, some (.lst (xs ++ [encR (row fs w)])), some (.int w.1), some (.int w.2), x7]) := by
  have hx := hd.ix hw.1 hw.2
  unfold row val encR
  cases hf : fs.getD w.1.toNat none with
  | none =>
    rw [hf] at hx
    simp only [encO] at hx
    simp [b_law_due1, hx, hl, rv, lstAt]
  | some c =>
    rw [hf] at hx
    simp only [encO] at hx
    simp [b_law_due1, hx, hl, rv, lstAt]
theorem due_loop (n : D) (d : D) (fs : Fs) (hd : Fd d fs) (ws : List Way) (hw : ∀ w ∈ ws, 0 ≤ w.1 ∧ w.1 < fs.length) (hl : ws.length ≤ 1000) (x2 x3 x5 x6 x7 : Option D) (g : Bag) :
    ∃ x5' x6', forGo [4] (tupB 2 (consB (nameB 5) (consB (nameB 6) nilB))) b_law_due1 (ws.map encW) [some n, some d, x2, x3, some (.lst []), x5, x6, x7] g =
      .ok (.nx [some n, some d, x2, x3, some (.lst (ws.map fun w => encR (row fs w))), x5', x6', x7]) g := by
  obtain ⟨e, g', h1, y5, y6, he, rfl⟩ := for_run (O := [4]) (bd := tupB 2 (consB (nameB 5) (consB (nameB 6) nilB))) (ρ := b_law_due1)
    (fun k e g' => ∃ y5 y6, e = [some n, some d, x2, x3, some (.lst ((ws.take k).map fun w => encR (row fs w))), y5, y6, x7] ∧ g' = g) (ws.map encW) [some n, some d, x2, x3, some (.lst []), x5, x6, x7] g ⟨x5, x6, rfl, rfl⟩ (by
      rintro k q e g1 hq ⟨y5, y6, rfl, rfl⟩
      rw [List.getElem?_map] at hq
      obtain ⟨w, hw1, rfl⟩ := Option.map_eq_some_iff.mp hq
      have hm := List.mem_of_getElem? hw1
      have hk := (List.getElem?_eq_some_iff.mp hw1).1
      refine ⟨[(5, .int w.1), (6, .int w.2)], by simp [encW], by simp, _, g1, .inl ?_, some (.int w.1), some (.int w.2), rfl, rfl⟩
      show b_law_due1 [some n, some d, x2, x3, some (.lst ((ws.take k).map fun w => encR (row fs w))), some (.int w.1), some (.int w.2), x7] g1 = _
      rw [due_turn n d fs hd w (hw w hm) x2 x3 x7 _ (by rw [List.length_map, List.length_take]; unfold line; omega), List.take_add_one, hw1]
      simp
      rfl)
  rw [List.length_map, List.take_length] at he
  exact ⟨y5, y6, by rw [h1, he]⟩
/-- the order of the rows -/
theorem rows_sorted (x : Way → List Int) (ws : List Way) : ((ws.mergeSort fun a b => decide (x a ≤ x b)).Pairwise fun a b => x a ≤ x b) ∧ (ws.mergeSort fun a b => decide (x a ≤ x b)).Perm ws := by
  refine ⟨?_, List.mergeSort_perm _ _⟩
  have h := List.pairwise_mergeSort (le := fun a b => decide (x a ≤ x b)) (fun a b c h1 h2 => by
    rw [decide_eq_true_eq] at *
    exact List.le_trans h1 h2) (fun a b => by
    rw [Bool.or_eq_true, decide_eq_true_eq, decide_eq_true_eq]
    exact List.le_total _ _) ws
  exact h.imp fun h => by simpa using h
theorem row_some {fs : Fs} {w : Way} {v : Int} (h : val fs w = some v) : row fs w = rv (some v) := by unfold row; rw [h]
theorem row_none {fs : Fs} {w : Way} (h : val fs w = none) : row fs w = rv none := by unfold row; rw [h]
theorem due_first {n : Nd} {fs : Fs} (h0 : n.1 = 0) {a : Way} (ha : a ∈ n.2) (hle : ∀ w ∈ n.2, row fs a ≤ row fs w) : due n fs = val fs a := by
  cases hv : val fs a with
  | some v =>
    refine (due0 h0).mpr ⟨⟨a, ha, hv⟩, fun w hw u hu => ?_⟩
    have := hle w hw
    rw [row_some hv, row_some hu] at this
    exact (rv_ss v u).mp this
  | none =>
    cases e : due n fs with
    | none => rfl
    | some d =>
      obtain ⟨w, hw, hd⟩ := ((due0 h0).mp e).1
      have := hle w hw
      rw [row_none hv, row_some hd] at this
      exact absurd this (rv_ns d)
theorem due_last {n : Nd} {fs : Fs} (h0 : n.1 ≠ 0) {a : Way} (ha : a ∈ n.2) (hle : ∀ w ∈ n.2, row fs w ≤ row fs a) : due n fs = val fs a := by
  cases hv : val fs a with
  | some v =>
    refine (due1 h0).mpr ⟨⟨a, ha, hv⟩, fun w hw => ?_⟩
    have := hle w hw
    rw [row_some hv] at this
    cases hu : val fs w with
    | none =>
      rw [row_none hu] at this
      exact absurd this (rv_ns v)
    | some u =>
      rw [row_some hu] at this
      exact ⟨u, rfl, (rv_ss u v).mp this⟩
  | none =>
    cases e : due n fs with
    | none => rfl
    | some d =>
      obtain ⟨u, hu, _⟩ := ((due1 h0).mp e).2 a ha
      rw [hv] at hu
      cases hu
/-- one = [dues[0], dues[-1]][owner], then [one[1], None][one[0]] -/
theorem due_pick (fs : Fs) (w : Way) : ∃ p q, encR (row fs w) = .lst [.int p, .int q] ∧ atI [D.int q, D.non] p = some (encO (val fs w)) := by
  cases hv : val fs w with
  | none => exact ⟨1, 0, by rw [row_none hv]; rfl, rfl⟩
  | some v => exact ⟨0, v, by rw [row_some hv]; rfl, rfl⟩
theorem law_due_at (n : Nd) (ho : n.1 = 0 ∨ n.1 = 1) (hl : n.2.length ≤ 1000) (hne : n.2 ≠ []) (d : D) (fs : Fs) (hd : Fd d fs) (hw : ∀ w ∈ n.2, 0 ≤ w.1 ∧ w.1 < fs.length) (g : Bag) : r__law_due [encN n, d] g = .ok (encO (due n fs)) g := by
  obtain ⟨y5, y6, h1⟩ := due_loop (encN n) d fs hd n.2 hw hl (some (.int n.1)) (some (.tup (n.2.map encW))) none none none g
  obtain ⟨hs, hp⟩ := rows_sorted (row fs) n.2
  have hsort := sort_rows (row fs) n.2
  have hok := sortOk_rows (row fs) n.2 (row_two fs) (Nat.le_trans hl (by decide))
  generalize (n.2.mergeSort fun a b => decide (row fs a ≤ row fs b)) = S at hs hp hsort
  have hSne : S ≠ [] := fun z => hne (by rw [z] at hp; exact hp.symm.eq_nil)
  refine fnD_ok (env := [some (encN n), some d, none, none, none, none, none, none]) rfl ?_
  have hA : unpH [] (tupB 2 (consB (nameB 2) (consB (nameB 3) nilB))) (varE 0) [some (encN n), some d, none, none, none, none, none, none] = M.ret (.nx [some (encN n), some d, some (.int n.1), some (.tup (n.2.map encW)), none, none, none, none]) := by
    simp [encN]
  have hB : asgNH [] 4 (lstE nilA) [some (encN n), some d, some (.int n.1), some (.tup (n.2.map encW)), none, none, none, none] = M.ret (.nx [some (encN n), some d, some (.int n.1), some (.tup (n.2.map encW)), some (.lst []), none, none, none]) := by
    simp
  have hC : forH [4] (seqI (varE 3)) (tupB 2 (consB (nameB 5) (consB (nameB 6) nilB))) b_law_due1 [some (encN n), some d, some (.int n.1), some (.tup (n.2.map encW)), some (.lst []), none, none, none] g = .ok (.nx [some (encN n), some d, some (.int n.1), some (.tup (n.2.map encW)), some (.lst (n.2.map fun w => encR (row fs w))), y5, y6, none]) g := by
    rw [← h1]
    simp
  have hD : asgH [] 4 (callE sortL (consA (varE 4) nilA)) [some (encN n), some d, some (.int n.1), some (.tup (n.2.map encW)), some (.lst (n.2.map fun w => encR (row fs w))), y5, y6, none] = M.ret (.nx [some (encN n), some d, some (.int n.1), some (.tup (n.2.map encW)), some (.lst (S.map fun w => encR (row fs w))), y5, y6, none]) := by
    refine asgH_of (call1_of rfl ?_)
    show (if sortOk _ then _ else _) = _
    rw [if_pos hok, hsort]
  unfold s__law_due
  rw [seqS_of hA, seqS_of hB, seqS_ok hC, seqS_of hD]
  cases hS : S with
  | nil => exact absurd hS hSne
  | cons a r =>
    subst hS
    have ha : a ∈ n.2 := hp.mem_iff.mp List.mem_cons_self
    have hfirst : ∀ w ∈ n.2, row fs a ≤ row fs w := fun w hw => by
      rcases List.mem_cons.mp (hp.mem_iff.mpr hw) with rfl | h
      · exact List.le_refl _
      · exact (List.pairwise_cons.mp hs).1 w h
    obtain ⟨z, hz⟩ : ∃ z, (a :: r).getLast? = some z := ⟨_, List.getLast?_eq_some_getLast (by simp)⟩
    have hzm : z ∈ a :: r := List.mem_of_getLast? hz
    have hlast : ∀ w ∈ n.2, row fs w ≤ row fs z := fun w hw => by
      have hm := hp.mem_iff.mpr hw
      obtain ⟨init, hi⟩ := List.getLast?_eq_some_iff.mp hz
      rw [hi] at hm hs
      rcases List.mem_append.mp hm with h | h
      · exact (List.pairwise_append.mp hs).2.2 w h z (by simp)
      · rw [List.mem_singleton.mp h]
        exact List.le_refl _
    have hixA : ixD (.lst ((a :: r).map fun w => encR (row fs w))) (.int 0) = some (encR (row fs a)) := by
      rw [ixD_lst, List.map_cons, atI_0]
    have hixZ : ixD (.lst ((a :: r).map fun w => encR (row fs w))) (.int (-1)) = some (encR (row fs z)) := by
      rw [ixD_lst, atI_last, List.getLast?_map, hz]
      rfl
    rcases ho with ho | ho
    · obtain ⟨p, q, e1, e2⟩ := due_pick fs a
      rw [due_first ho ha hfirst]
      rw [e1] at hixA
      simp [hixA, hixZ, ho, e2, -List.map_cons]
      rfl
    · obtain ⟨p, q, e1, e2⟩ := due_pick fs z
      rw [due_last (by omega) (hp.mem_iff.mp hzm) hlast]
      rw [e1] at hixZ
      simp [hixA, hixZ, ho, e2, -List.map_cons]
      rfl
theorem law_due_eq (n : Nd) (ho : n.1 = 0 ∨ n.1 = 1) (hl : n.2.length ≤ 1000) (hne : n.2 ≠ []) (d : D) (fs : Fs) (hd : Fd d fs) (hw : ∀ w ∈ n.2, 0 ≤ w.1 ∧ w.1 < fs.length) : r__law_due [encN n, d] = M.ret (encO (due n fs)) :=
  funext fun g => law_due_at n ho hl hne d fs hd hw g
end K80

/-! K80q: _law_energies gives the least answers too. -/
namespace K80
open PySem PySem.Spec L2 RZ VS
open PyProof.Rows hiding St

/-- all the answers one step on -/
def nxt (m : Int) (ns : List Nd) (f : Fs) : Fs := ns.map fun n => clip m (due n f)
theorem at_nxt {m : Int} {ns : List Nd} {f : Fs} {i : Nat} {n : Nd} (h : ns[i]? = some n) : at_ (nxt m ns f) i = clip m (due n f) := by
  unfold at_ nxt
  rw [List.getD_eq_getElem?_getD, List.getElem?_map, h]
  rfl
theorem at_out {f : Fs} {i : Nat} (h : f.length ≤ i) : at_ f i = none := by
  unfold at_
  rw [List.getD_eq_getElem?_getD, List.getElem?_eq_none h]
  rfl
theorem nxt_mono {m : Int} {ns : List Nd} (hne : ∀ n ∈ ns, n.2 ≠ []) {f g : Fs} (h : leF f g) : leF (nxt m ns f) (nxt m ns g) := by
  refine ⟨by unfold nxt; rw [List.length_map, List.length_map], fun i => ?_⟩
  cases hn : ns[i]? with
  | some n => rw [at_nxt hn, at_nxt hn]; exact clip_mono (due_mono (hne n (List.mem_of_getElem? hn)) h)
  | none =>
    have : ns.length ≤ i := List.getElem?_eq_none_iff.mp hn
    rw [at_out (f := nxt m ns g) (by unfold nxt; rw [List.length_map]; exact this)]
    trivial
structure Up (ns : List Nd) (f : Fs) : Prop where
  low : Low ns f
  up : leF f (nxt (most ns) ns f)
theorem Up.next {ns : List Nd} (hfit : Fit ns) {f : Fs} (h : Up ns f) : Up ns (nxt (most ns) ns f) := by
  refine ⟨⟨by unfold nxt; rw [List.length_map], fun p hp => ?_, fun i c hc => ?_, fun i c hc => ?_⟩, nxt_mono hfit.ne h.up⟩
  · have hl := h.low.low p hp
    refine ⟨by unfold nxt; rw [List.length_map, hp.len], fun i => ?_⟩
    cases hn : ns[i]? with
    | some n => rw [at_nxt hn]; exact le_trans (clip_mono (due_mono (hfit.ne n (List.mem_of_getElem? hn)) hl)) (hp.ok i n hn)
    | none =>
      have : ns.length ≤ i := List.getElem?_eq_none_iff.mp hn
      rw [at_out (f := p) (by rw [hp.len]; exact this)]
      trivial
  · cases hn : ns[i]? with
    | some n => rw [at_nxt hn] at hc; exact due_nonneg (clip_some.mp hc).1
    | none =>
      have : ns.length ≤ i := List.getElem?_eq_none_iff.mp hn
      rw [at_out (by unfold nxt; rw [List.length_map]; exact this)] at hc
      cases hc
  · cases hn : ns[i]? with
    | some n => rw [at_nxt hn] at hc; exact (clip_some.mp hc).2
    | none =>
      have : ns.length ≤ i := List.getElem?_eq_none_iff.mp hn
      rw [at_out (by unfold nxt; rw [List.length_map]; exact this)] at hc
      cases hc
theorem Up.start (ns : List Nd) : Up ns (List.replicate ns.length (some 0)) := by
  refine ⟨low_start ns, by unfold nxt; rw [List.length_map, List.length_replicate], fun i => ?_⟩
  cases hn : ns[i]? with
  | some n =>
    rw [at_nxt hn]
    have e : at_ (List.replicate ns.length (some (0 : Int))) i = some 0 := by
      unfold at_
      rw [List.getD_eq_getElem?_getD, List.getElem?_replicate, if_pos (List.getElem?_eq_some_iff.mp hn).1]
      rfl
    rw [e]
    cases hc : clip (most ns) (due n (List.replicate ns.length (some 0))) with
    | none => trivial
    | some c => exact le_some.mpr (due_nonneg (clip_some.mp hc).1)
  | none =>
    have : ns.length ≤ i := List.getElem?_eq_none_iff.mp hn
    rw [at_out (f := nxt _ _ _) (by unfold nxt; rw [List.length_map]; exact this)]
    trivial
theorem Up.least {ns : List Nd} {f : Fs} (h : Up ns f) (he : nxt (most ns) ns f = f) : Least ns (most ns) f :=
  h.low.least fun i hi n hn => by
    have := at_nxt (m := most ns) (f := f) hn
    rw [he] at this
    rw [this]
    exact le_refl _
theorem rk_mono {m : Int} {o p : Option Int} (h : le o p) : rk m p ≤ rk m o := by
  cases p with
  | none => exact Nat.zero_le _
  | some b =>
    obtain ⟨a, rfl, hab⟩ := h
    unfold rk
    simp only
    omega
theorem mu_mono {m : Int} : ∀ {f g : Fs}, leF f g → mu m g ≤ mu m f
  | [], [], _ => Nat.le_refl _
  | [], _ :: _, h => by cases h.1
  | _ :: _, [], h => by cases h.1
  | a :: r, b :: s, h => by
    have h0 : le a b := h.2 0
    have ih := mu_mono (m := m) (f := r) (g := s) ⟨by simpa using h.1, fun i => by have := h.2 (i + 1); unfold at_ at this ⊢; simpa using this⟩
    have := rk_mono (m := m) h0
    simp only [mu, List.map_cons, List.sum_cons] at ih ⊢
    omega
theorem mu_less {m : Int} : ∀ {f g : Fs}, leF f g → (∀ i c, at_ f i = some c → c ≤ m) → f ≠ g → mu m g < mu m f
  | [], [], _, _, h => absurd rfl h
  | [], _ :: _, h, _, _ => by cases h.1
  | _ :: _, [], h, _, _ => by cases h.1
  | a :: r, b :: s, h, hm, hne => by
    have h0 : le a b := h.2 0
    have hr : leF r s := ⟨by simpa using h.1, fun i => by have := h.2 (i + 1); unfold at_ at this ⊢; simpa using this⟩
    have hmr : ∀ i c, at_ r i = some c → c ≤ m := fun i c hc => hm (i + 1) c (by unfold at_ at hc ⊢; simpa using hc)
    by_cases e : a = b
    · have := mu_less hr hmr (fun z => hne (by rw [e, z]))
      simp only [mu, List.map_cons, List.sum_cons] at this ⊢
      have := rk_mono (m := m) h0
      omega
    · have h1 := mu_mono (m := m) hr
      have h2 : rk m b < rk m a := by
        cases a with
        | none => exact absurd (le_antisymm h0 (le_none b)) e
        | some c =>
          have hc := hm 0 c rfl
          cases b with
          | none => unfold rk; simp only; omega
          | some d =>
            have := le_some.mp h0
            have : c ≠ d := fun z => e (by rw [z])
            unfold rk
            simp only
            omega
      simp only [mu, List.map_cons, List.sum_cons] at h1 ⊢
      omega
theorem mu_start (m : Int) : ∀ k : Nat, mu m (List.replicate k (some 0)) = k * (m + 1).toNat
  | 0 => by simp [mu]
  | k + 1 => by
    have := mu_start m k
    unfold mu at this ⊢
    rw [List.replicate_succ, List.map_cons, List.sum_cons, this, Nat.succ_mul]
    show (m + 1 - 0).toNat + _ = _
    rw [Int.sub_zero]
    omega
/-! ### the walk -/
theorem pls_map {α : Type} (e : α → D) (h : ∀ x, pl (e x) = true) : ∀ xs : List α, pls (xs.map e) = true
  | [] => rfl
  | x :: xs => by simp [pls, h x, pls_map e h xs]
theorem pl_encO (o : Option Int) : pl (encO o) = true := by cases o <;> rfl
theorem pl_fs (f : Fs) : pl (.lst (f.map encO)) = true := pls_map encO pl_encO f
theorem encO_inj {o p : Option Int} (h : encO o = encO p) : o = p := by
  cases o <;> cases p <;> simp [encO] at h <;> simp [h]
theorem encOs_inj : ∀ {f g : Fs}, f.map encO = g.map encO → f = g
  | [], [], _ => rfl
  | [], _ :: _, h => by simp at h
  | _ :: _, [], h => by simp at h
  | a :: r, b :: s, h => by
    simp only [List.map_cons, List.cons.injEq] at h
    rw [encO_inj h.1, encOs_inj h.2]
theorem depth_fs (f : Fs) : (toPy (.lst (f.map encO))).depth ≤ 60 := by
  have : ∀ f : Fs, PyData.depthAll (toPys (f.map encO)) = 0 := fun f => by
    induction f with
    | nil => rfl
    | cons a r ih =>
      cases a <;> simpa [toPys, PyData.depthAll, toPy, encO, PyData.depth] using ih
  show PyData.depth (.list (toPys (f.map encO))) ≤ 60
  unfold PyData.depth
  rw [this]
  omega
theorem eqVD_fs (f g : Fs) : eqVD (.lst (f.map encO)) (.lst (g.map encO)) = some (.bl (decide (f = g))) :=
  eqVD_pl (pl_fs f) (pl_fs g) (depth_fs g) _ (by
    rw [decide_eq_true_eq]
    constructor
    · intro h; rw [h]
    · intro h; exact encOs_inj (by simpa using h))
end K80

/-! K80r: _law_energies, the walk. -/
namespace K80
open PySem PySem.Spec L2 RZ VS
open PyProof.Rows hiding St

theorem most_le {ns : List Nd} (h : Good ns) : most ns ≤ 24 := by
  have each : ∀ n ∈ ns, neg1 n ≤ 4 := fun n hn => by
    unfold neg1
    have : ∀ (l : List Int) (a : Int), a ≤ 4 → (∀ x ∈ l, x ≤ 4) → l.foldl max a ≤ 4 := fun l => by
      induction l with
      | nil => intro a ha _; exact ha
      | cons y r ih =>
        intro a ha hl
        have := hl y List.mem_cons_self
        exact ih _ (by omega) fun x hx => hl x (List.mem_cons_of_mem _ hx)
    refine this _ 0 (by decide) fun x hx => ?_
    obtain ⟨w, hw, rfl⟩ := List.mem_map.mp hx
    have := h.way n hn w hw
    omega
  have sum : ∀ ns : List Nd, (∀ n ∈ ns, neg1 n ≤ 4) → (ns.map neg1).sum ≤ 4 * ns.length := fun ns => by
    induction ns with
    | nil => intro _; exact Int.le_refl 0
    | cons n r ih =>
      intro h
      have h1 := h n List.mem_cons_self
      have h2 := ih fun x hx => h x (List.mem_cons_of_mem _ hx)
      simp only [List.map_cons, List.sum_cons, List.length_cons]
      omega
  have := sum ns each
  have := h.l6
  unfold most
  omega
theorem ener1 (ws : List Way) (hl : ws.length ≤ 1000) (x0 x1 x2 x3 x4 x5 x6 x7 x9 x10 : Option D) : e_law_energies1 [x0, x1, x2, x3, x4, x5, x6, x7, some (.tup (ws.map encW)), x9, x10] = M.ret (.lst ((ws.map fun w => -w.2).map D.int)) := by
  unfold e_law_energies1
  rw [lc_runA encW (fun w => .int (-w.2)) ws (by simp) (Nat.le_trans hl (by decide)) fun w hw => ⟨[(9, .int w.1), (10, .int w.2)], by simp [encW], by simp⟩, List.map_map]
  rfl
theorem ener2 (ns : List Nd) (hf : Fit ns) (x1 x2 x3 x4 x5 x6 x7 x8 x9 x10 : Option D) : e_law_energies2 [some (encNs ns), x1, x2, x3, x4, x5, x6, x7, x8, x9, x10] = M.ret (.lst ((ns.map neg1).map D.int)) := by
  unfold e_law_energies2
  rw [lc_runA encN (fun n => .int (neg1 n)) ns (by simp [encNs]) (Nat.le_trans hf.few (by decide)) fun n hn => ⟨[(7, .int n.1), (8, .tup (n.2.map encW))], by simp [encN], ?_⟩, List.map_map]
  · rfl
  · have hl := hf.ways n hn
    have h2 : ([D.int 0] : List D).length + ((n.2.map fun w => -w.2).map D.int).length ≤ line := by
      simp only [List.length_map, List.length_cons, List.length_nil]
      unfold line
      omega
    simp only [callE_eq, consA_eq, nilA_eq, bin2_eq, lstE_eq, cE_eq, bnd_ret, wipeE_cons, wipeE_nil, List.set_cons_succ, List.set_cons_zero, setsE_cons, setsE_nil, ener1 n.2 hl, addD_ll _ _ h2, ofO_someM, List.length_cons, List.length_nil]
    simp [neg1, addD_ll _ _ h2, -List.map_map]
theorem ix_nodes {ns : List Nd} {k : Nat} {n : Nd} (h : ns[k]? = some n) : ixD (encNs ns) (.int k) = some (encN n) := by
  unfold encNs
  rw [ixD_tup, VS.atI_nat, List.getElem?_map, h]
  rfl
theorem ener_turn {ns : List Nd} (h : Good ns) {f : Fs} (hf : f.length = ns.length) {k : Nat} {n : Nd} (hn : ns[k]? = some n) (m : Int) (xs : List D) (hx : xs.length < line) (x3 x6 x7 x8 x9 x10 : Option D) (g : Bag) :
    ∃ y6, b_law_energies3 [some (encNs ns), some (.int m), some (.lst (f.map encO)), x3, some (.lst xs), some (.int k), x6, x7, x8, x9, x10] g = .ok (.nx [some (encNs ns), some (.int m), some (.lst (f.map encO)), x3, some (.lst (xs ++ [encO (clip m (due n f))])), some (.int k), y6, x7, x8, x9, x10]) g := by
  have hm := List.mem_of_getElem? hn
  have hfit := h.fit
  have hd : r__law_due [encN n, .lst (f.map encO)] = M.ret (encO (due n f)) := law_due_eq n (h.own n hm) (hfit.ways n hm) (hfit.ne n hm) _ f (.inl rfl) (fun w hw => by rw [hf]; exact hfit.to n hm w hw)
  have hix := ix_nodes hn
  cases hdu : due n f with
  | none =>
    rw [hdu] at hd
    refine ⟨some .non, ?_⟩
    simp only [encO] at hd
    simp [b_law_energies3, hix, hd, encO, clip, lstAt, hx, flat]
    rfl
  | some d =>
    rw [hdu] at hd
    refine ⟨some (.int d), ?_⟩
    simp only [encO] at hd
    by_cases hc : m < d
    · simp [b_law_energies3, hix, hd, encO, clip, lstAt, hx, flat, hc]
      rfl
    · simp [b_law_energies3, hix, hd, encO, clip, lstAt, hx, flat, hc]
      rfl
theorem ener_loop {ns : List Nd} (h : Good ns) {f : Fs} (hf : f.length = ns.length) (m : Int) (x3 x5 x6 x7 x8 x9 x10 : Option D) (g : Bag) :
    ∃ y5 y6, forH [4] (rng1I (consA (callE lenL (consA (varE 0) nilA)) nilA)) (nameB 5) b_law_energies3 [some (encNs ns), some (.int m), some (.lst (f.map encO)), x3, some (.lst []), x5, x6, x7, x8, x9, x10] g =
      .ok (.nx [some (encNs ns), some (.int m), some (.lst (f.map encO)), x3, some (.lst ((nxt m ns f).map encO)), y5, y6, x7, x8, x9, x10]) g := by
  have l6 := h.l6
  obtain ⟨e, g', h1, y5, y6, he, rfl⟩ := for_run (O := [4]) (bd := nameB 5) (ρ := b_law_energies3)
    (fun k e g' => ∃ y5 y6, e = [some (encNs ns), some (.int m), some (.lst (f.map encO)), x3, some (.lst ((nxt m (ns.take k) f).map encO)), y5, y6, x7, x8, x9, x10] ∧ g' = g) (rngD 0 ns.length) [some (encNs ns), some (.int m), some (.lst (f.map encO)), x3, some (.lst []), x5, x6, x7, x8, x9, x10] g ⟨x5, x6, rfl, rfl⟩ (by
      rintro k q e g1 hq ⟨y5, y6, rfl, rfl⟩
      rw [rngD_get] at hq
      split at hq
      · rename_i hk
        cases hq
        have hn : ns[k]? = some ns[k] := List.getElem?_eq_getElem hk
        obtain ⟨z6, hz⟩ := ener_turn h hf hn m ((nxt m (ns.take k) f).map encO) (by unfold nxt; rw [List.length_map, List.length_map, List.length_take]; unfold line; omega) x3 y6 x7 x8 x9 x10 g1
        refine ⟨[(5, .int k)], rfl, rfl, _, g1, .inl hz, some (.int k), z6, ?_, rfl⟩
        rw [List.take_add_one, hn]
        unfold nxt
        rw [List.map_append, List.map_append]
        rfl
      · cases hq)
  rw [rngD_length, List.take_length] at he
  refine ⟨y5, y6, ?_⟩
  rw [← he, ← h1]
  have hlen : lenL [encNs ns] = some (.int ns.length) := by simp [encNs]
  rw [forH_eq, rng1_nat (k := ns.length) (call1_of (x := encNs ns) rfl hlen) (by omega), bnd_ret]
theorem law_energies_at {ns : List Nd} (h : Good ns) (g : Bag) : ∃ f, Least ns (most ns) f ∧ r__law_energies [encNs ns] g = .ok (.tup (f.map encO)) g := by
  have hfit := h.fit
  have l6 := h.l6
  have m0 := most_nonneg ns
  have m24 := most_le h
  have hlen : lenL [encNs ns] = some (.int ns.length) := by simp [encNs]
  obtain ⟨r, g', h1, f, hL, rfl, rfl⟩ := for_until (O := []) (bd := nameB 3) (ρ := b_law_energies4)
    (fun m e g' => ∃ f x3 x4 x5 x6 x7 x8 x9 x10, e = [some (encNs ns), some (.int (most ns)), some (.lst (f.map encO)), x3, x4, x5, x6, x7, x8, x9, x10] ∧ g' = g ∧ Up ns f ∧ mu (most ns) f < m)
    (fun r g' => ∃ f, Least ns (most ns) f ∧ r = .tup (f.map encO) ∧ g' = g) (by
      rintro e g1 ⟨f, x3, x4, x5, x6, x7, x8, x9, x10, _, _, _, hlt⟩
      exact absurd hlt (Nat.not_lt_zero _)) (by
      rintro d m e g1 ⟨f, x3, x4, x5, x6, x7, x8, x9, x10, rfl, rfl, hu, hlt⟩
      refine ⟨[(3, d)], rfl, rfl, ?_⟩
      obtain ⟨y5, y6, hl⟩ := ener_loop h hu.low.len (most ns) (some d) x5 x6 x7 x8 x9 x10 g1
      have hA : asgNH [] 4 (lstE nilA) [some (encNs ns), some (.int (most ns)), some (.lst (f.map encO)), some d, x4, x5, x6, x7, x8, x9, x10] = M.ret (.nx [some (encNs ns), some (.int (most ns)), some (.lst (f.map encO)), some d, some (.lst []), x5, x6, x7, x8, x9, x10]) := by simp
      have hB : b_law_energies4 [some (encNs ns), some (.int (most ns)), some (.lst (f.map encO)), some d, x4, x5, x6, x7, x8, x9, x10] g1 = if nxt (most ns) ns f = f then .ok (.rt (.tup (f.map encO))) g1 else .ok (.nx [some (encNs ns), some (.int (most ns)), some (.lst ((nxt (most ns) ns f).map encO)), some d, some (.lst ((nxt (most ns) ns f).map encO)), y5, y6, x7, x8, x9, x10]) g1 := by
        unfold b_law_energies4
        rw [seqS_of hA, seqS_ok hl]
        by_cases e : nxt (most ns) ns f = f
        · rw [if_pos e]
          simp [eqVD_fs, e]
          rfl
        · rw [if_neg e]
          simp [eqVD_fs, e]
          rfl
      by_cases e : nxt (most ns) ns f = f
      · rw [if_pos e] at hB
        exact .inl ⟨_, g1, hB, f, hu.least e, rfl, rfl⟩
      · rw [if_neg e] at hB
        refine .inr ⟨_, g1, hB, nxt (most ns) ns f, some d, some (.lst ((nxt (most ns) ns f).map encO)), y5, y6, x7, x8, x9, x10, rfl, rfl, hu.next hfit, ?_⟩
        have := mu_less hu.up hu.low.top (fun z => e z.symm)
        omega)
    (rngD 0 ((most ns + 2) * ns.length + 2).toNat) [some (encNs ns), some (.int (most ns)), some (.lst ((List.replicate ns.length (some (0 : Int))).map encO)), none, none, none, none, none, none, none, none] g
    ⟨_, none, none, none, none, none, none, none, none, rfl, rfl, Up.start ns, by
      rw [mu_start, rngD_length]
      have e1 : ((ns.length * (most ns + 1).toNat : Nat) : Int) = ns.length * (most ns + 1) := by
        rw [Int.natCast_mul, Int.toNat_of_nonneg (by omega)]
      have e2 : (most ns + 2) * ns.length + 2 = ns.length * (most ns + 1) + ns.length + 2 := by
        rw [Int.mul_comm, show most ns + 2 = (most ns + 1) + 1 by omega, Int.mul_add, Int.mul_one]
      rw [e2, ← e1]
      omega⟩
  refine ⟨f, hL, ?_⟩
  have hs : sumL [.lst ((ns.map neg1).map D.int)] = some (.int (most ns)) := sumL_map _
  refine fnD_ok (env := [some (encNs ns), none, none, none, none, none, none, none, none, none, none]) rfl ?_
  have hA : asgH [] 1 (callE sumL (consA e_law_energies2 nilA)) [some (encNs ns), none, none, none, none, none, none, none, none, none, none] = M.ret (.nx [some (encNs ns), some (.int (most ns)), none, none, none, none, none, none, none, none, none]) :=
    asgH_of (call1_of (ener2 ns hfit _ _ _ _ _ _ _ _ _ _) hs)
  have hB : asgH [] 2 (bin2 mulD (lstE (consA (cE (.int 0)) nilA)) (callE lenL (consA (varE 0) nilA))) [some (encNs ns), some (.int (most ns)), none, none, none, none, none, none, none, none, none] = M.ret (.nx [some (encNs ns), some (.int (most ns)), some (.lst ((List.replicate ns.length (some (0 : Int))).map encO)), none, none, none, none, none, none, none, none]) :=
    asgH_of (bin2_of (x := .lst [.int 0]) (y := .int ns.length) (by simp) (call1_of (x := encNs ns) rfl hlen) (zero_mul (by omega)))
  have hmul : mulD (.int (most ns + 2)) (.int ns.length) = some (.int ((most ns + 2) * ns.length)) := by
    show (if _ then _ else _) = _
    rw [if_pos (.inl (by omega))]
  have hC : rng1I (consA (bin2 addD (bin2 mulD (bin2 addD (varE 1) (cE (.int 2))) (callE lenL (consA (varE 0) nilA))) (cE (.int 2))) nilA) [some (encNs ns), some (.int (most ns)), some (.lst ((List.replicate ns.length (some (0 : Int))).map encO)), none, none, none, none, none, none, none, none] = M.ret (rngD 0 ((most ns + 2) * ns.length + 2).toNat) := by
    have b1 : 0 ≤ (most ns + 2) * ns.length := Int.mul_nonneg (by omega) (by omega)
    have b2 : (most ns + 2) * ns.length ≤ 26 * 6 := Int.mul_le_mul (by omega) (by omega) (by omega) (by omega)
    have e := bin2_of (q := addD) (a := bin2 mulD (bin2 addD (varE 1) (cE (.int 2))) (callE lenL (consA (varE 0) nilA))) (b := cE (.int 2)) (env := [some (encNs ns), some (.int (most ns)), some (.lst ((List.replicate ns.length (some (0 : Int))).map encO)), none, none, none, none, none, none, none, none]) (bin2_of (x := .int (most ns + 2)) (y := .int ns.length) (bin2_of (x := .int (most ns)) (y := .int 2) rfl rfl rfl) (call1_of (x := encNs ns) rfl hlen) hmul) rfl rfl
    exact rng1_of e (by omega) (by omega)
  unfold s__law_energies
  rw [seqS_of hA, seqS_of hB, seqS_eq, forH_eq, hide_nil, hC, bnd_ret, bnd_okM h1]
  rfl
theorem law_energies_eq {ns : List Nd} (h : Good ns) {f : Fs} (hL : Least ns (most ns) f) : r__law_energies [encNs ns] = M.ret (.tup (f.map encO)) := by
  funext g
  obtain ⟨f2, hL2, h2⟩ := law_energies_at h g
  rw [h2, hL.uniq hL2]
  rfl
end K80

/-! K80s: _law_is_enough. -/
namespace K80
open PySem PySem.Spec L2 RZ VS
open PyProof.Rows hiding St

/-! ### the least of some rows -/
def tupR (l : List Int) : D := .tup (l.map D.int)
theorem toPy_tupR (l : List Int) : toPy (tupR l) = .tuple (l.map .int) := by
  unfold tupR
  rw [toPy, toPys_ints]
theorem lt_rows (x y : List Int) : PySem.W.dataLt (toPy (tupR x)) (toPy (tupR y)) = decide (x < y) := by
  rw [toPy_tupR, toPy_tupR, PySem.W.dataLt_tuple]
  exact PySem.W.dataLt_ints x y
theorem minOf_rows : ∀ (xs : List (List Int)) (x : List Int), ∃ z, z ∈ x :: xs ∧ (∀ y ∈ x :: xs, z ≤ y) ∧ minOf (tupR x) (xs.map tupR) = tupR z
  | [], x => ⟨x, List.mem_cons_self, fun y hy => by rw [List.mem_singleton.mp hy]; exact List.le_refl _, rfl⟩
  | y :: r, x => by
    by_cases h : y < x
    · obtain ⟨z, h1, h2, h3⟩ := minOf_rows r y
      refine ⟨z, List.mem_cons_of_mem _ h1, fun u hu => ?_, ?_⟩
      · rcases List.mem_cons.mp hu with rfl | hu
        · exact List.le_trans (h2 y List.mem_cons_self) (List.le_of_lt h)
        · exact h2 u hu
      · rw [← h3]
        show minOf (if PySem.W.dataLt (toPy (tupR y)) (toPy (tupR x)) = true then tupR y else tupR x) (r.map tupR) = _
        rw [lt_rows, if_pos (by simpa using h)]
    · obtain ⟨z, h1, h2, h3⟩ := minOf_rows r x
      refine ⟨z, ?_, fun u hu => ?_, ?_⟩
      · rcases List.mem_cons.mp h1 with rfl | h1
        · exact List.mem_cons_self
        · exact List.mem_cons_of_mem _ (List.mem_cons_of_mem _ h1)
      · rcases List.mem_cons.mp hu with rfl | hu
        · exact h2 u List.mem_cons_self
        · rcases List.mem_cons.mp hu with rfl | hu
          · exact List.le_trans (h2 x List.mem_cons_self) (List.not_lt.mp h)
          · exact h2 u (List.mem_cons_of_mem _ hu)
      · rw [← h3]
        show minOf (if PySem.W.dataLt (toPy (tupR y)) (toPy (tupR x)) = true then tupR y else tupR x) (r.map tupR) = _
        rw [lt_rows, if_neg (by simpa using h)]
theorem minOk_rows {α : Type} (x : α → List Int) (h3 : ∀ w, ∃ a b c, x w = [a, b, c]) (ws : List α) : minOk (ws.map fun w => tupR (x w)) := by
  have hm : (ws.map fun w => tupR (x w)).map toPy = ws.map fun w => PyData.tuple ((x w).map .int) := by
    rw [List.map_map]
    exact List.map_congr_left fun w _ => toPy_tupR _
  refine ⟨?_, ?_, ?_, ?_⟩
  · rw [hm]
    refine List.all_eq_true.mpr fun d hd => List.all_eq_true.mpr fun e he => ?_
    obtain ⟨w, _, rfl⟩ := List.mem_map.mp hd
    obtain ⟨u, _, rfl⟩ := List.mem_map.mp he
    obtain ⟨a, b, c, ea⟩ := h3 w
    obtain ⟨d, e, f, ec⟩ := h3 u
    rw [ea, ec]
    simp [PySem.W.alike, PySem.W.alikeAll]
  · rw [hm]
    refine List.all_eq_true.mpr fun d hd => ?_
    obtain ⟨w, _, rfl⟩ := List.mem_map.mp hd
    rfl
  · rw [hm]
    clear hm
    induction ws with
    | nil => rfl
    | cons w r ih =>
      obtain ⟨a, b, c, ea⟩ := h3 w
      simp only [List.map_cons, PyData.plainAll, Bool.and_eq_true]
      exact ⟨by rw [ea]; rfl, ih⟩
  · rw [hm]
    clear hm
    have : PyData.depthAll (ws.map fun w => PyData.tuple ((x w).map .int)) ≤ 1 := by
      induction ws with
      | nil => exact Nat.zero_le _
      | cons w r ih =>
        obtain ⟨a, b, c, ea⟩ := h3 w
        simp only [List.map_cons, PyData.depthAll]
        rw [ea]
        refine Nat.max_le.mpr ⟨?_, ih⟩
        simp [PyData.depth, PyData.depthAll]
    omega
/-! ### keys -/
def Kok (ns : List Nd) (f : Fs) (k : List Key) : Prop := ∃ a e c : Int, k = [.inl a, .inl e] ∧ 0 ≤ a ∧ a < ns.length ∧ at_ f a.toNat = some c ∧ c ≤ e
theorem putX_mem {x : D} {k : List Key} {ks : List (List Key)} {xs : List D} {q : List Key} (hq : q ∈ (putX ks xs k x).1) : q ∈ ks ∨ q = k := by
  unfold putX at hq
  split at hq
  · exact .inl hq
  · rcases List.mem_append.mp hq with h | h
    · exact .inl h
    · exact .inr (List.mem_singleton.mp h)
theorem putX_len (x : D) (k : List Key) (ks : List (List Key)) (xs : List D) : (putX ks xs k x).1.length ≤ ks.length + 1 := by
  unfold putX
  split
  · exact Nat.le_succ _
  · rw [List.length_append]; exact Nat.le_refl _
def DT (ns : List Nd) (f : Fs) (L : Nat) (d : D) : Prop := ∃ ks xs, d = .dT ks xs ∧ ks.length ≤ L ∧ ∀ k ∈ ks, Kok ns f k
/-- one way from a row -/
theorem enough_turn {ns : List Nd} (h : Good ns) {f : Fs} (hL : Least ns (most ns) f) {w : Way} (hw : 0 ≤ w.1 ∧ w.1 < ns.length) {e v : Int} (hv : val f w = some v) (hve : v ≤ e) {L : Nat} (hl : L < line) {d : D} (hd : DT ns f L d) (x2 x3 x4 x6 x8 x9 x12 : Option D) (g : Bag) :
    ∃ d', b_law_is_enough2 [some (encNs ns), some (.tup (f.map encO)), x2, x3, x4, some d, x6, some (.int e), x8, x9, some (.int w.1), some (.int w.2), x12] g =
      .ok (.nx [some (encNs ns), some (.tup (f.map encO)), x2, x3, x4, some d', x6, some (.int e), x8, x9, some (.int w.1), some (.int w.2), x12]) g ∧ DT ns f (L + 1) d' := by
  obtain ⟨ks, xs, rfl, hk, hK⟩ := hd
  have m24 := most_le h
  rw [val_eq] at hv
  obtain ⟨c, hc, rfl⟩ := Option.map_eq_some_iff.mp hv
  have ctop := hL.top _ c hc
  have cpos := hL.pre.pos _ c hc
  have hx := (Fd.ix (d := .tup (f.map encO)) (fs := f) (.inr rfl) hw.1 (by rw [hL.pre.len]; exact hw.2)).trans (show _ = some (encO (some c)) by rw [← hc]; rfl)
  simp only [encO] at hx
  have h1 : ¬ e + w.2 < 0 := by omega
  refine ⟨_, ?_, (putX ks xs [.inl w.1, .inl (min (e + w.2) 60)] (.bl true)).1, (putX ks xs [.inl w.1, .inl (min (e + w.2) 60)] (.bl true)).2, rfl, Nat.le_trans (putX_len _ _ _ _) (by omega), fun k hkm => ?_⟩
  · have hA : ifS (orT (valT (bin2 ltD (bin2 addD (varE 7) (varE 11)) (cE (.int 0)))) (valT (bin2 isNonD (bin2 ixD (varE 1) (varE 10)) (cE .non)))) (retS (cE (.bl false))) nxS [some (encNs ns), some (.tup (f.map encO)), x2, x3, x4, some (.dT ks xs), x6, some (.int e), x8, x9, some (.int w.1), some (.int w.2), x12] = M.ret (.nx [some (encNs ns), some (.tup (f.map encO)), x2, x3, x4, some (.dT ks xs), x6, some (.int e), x8, x9, some (.int w.1), some (.int w.2), x12]) := by
      simp [h1, hx]
    unfold b_law_is_enough2
    rw [seqS_of hA]
    have hk2 : ks.length < line := by omega
    show (M.bnd _ _) g = _
    simp only [cE_eq, bnd_ret]
    rw [show dictAt [some (encNs ns), some (.tup (f.map encO)), x2, x3, x4, some (.dT ks xs), x6, some (.int e), x8, x9, some (.int w.1), some (.int w.2), x12] 5 = some (.dT ks xs) from rfl, ofO_someM, bnd_ret]
    rw [show tupE (consA (varE 10) (consA (callE minL (consA (bin2 addD (varE 7) (varE 11)) (consA (cE (.int 60)) nilA))) nilA)) [some (encNs ns), some (.tup (f.map encO)), x2, x3, x4, some (.dT ks xs), x6, some (.int e), x8, x9, some (.int w.1), some (.int w.2), x12] = M.ret (.tup [.int w.1, .int (min (e + w.2) 60)]) by simp]
    rw [bnd_ret]
    rw [show putO (.dT ks xs) (.tup [.int w.1, .int (min (e + w.2) 60)]) (.bl true) = some (.dT (putX ks xs [.inl w.1, .inl (min (e + w.2) 60)] (.bl true)).1 (putX ks xs [.inl w.1, .inl (min (e + w.2) 60)] (.bl true)).2) by
      show (if ks.length < line then _ else _) = _
      rw [if_pos hk2]]
    rfl
  · rcases putX_mem hkm with hm | rfl
    · exact hK k hm
    · exact ⟨w.1, _, c, rfl, hw.1, hw.2, hc, by omega⟩
theorem enough_ways {ns : List Nd} (h : Good ns) {f : Fs} (hL : Least ns (most ns) f) (ws : List Way) (hw : ∀ w ∈ ws, 0 ≤ w.1 ∧ w.1 < ns.length) {e : Int} (hv : ∀ w ∈ ws, ∃ v, val f w = some v ∧ v ≤ e) {L : Nat} (hl : L + ws.length ≤ line) {d : D} (hd : DT ns f L d) (x2 x3 x4 x6 x8 x9 x10 x11 x12 : Option D) (g : Bag) :
    ∃ d' y10 y11, forGo [5] (tupB 2 (consB (nameB 10) (consB (nameB 11) nilB))) b_law_is_enough2 (ws.map encW) [some (encNs ns), some (.tup (f.map encO)), x2, x3, x4, some d, x6, some (.int e), x8, x9, x10, x11, x12] g =
      .ok (.nx [some (encNs ns), some (.tup (f.map encO)), x2, x3, x4, some d', x6, some (.int e), x8, x9, y10, y11, x12]) g ∧ DT ns f (L + ws.length) d' := by
  obtain ⟨e1, g', h1, d', y10, y11, rfl, rfl, hd'⟩ := for_run (O := [5]) (bd := tupB 2 (consB (nameB 10) (consB (nameB 11) nilB))) (ρ := b_law_is_enough2)
    (fun k e1 g' => ∃ d' y10 y11, e1 = [some (encNs ns), some (.tup (f.map encO)), x2, x3, x4, some d', x6, some (.int e), x8, x9, y10, y11, x12] ∧ g' = g ∧ DT ns f (L + k) d') (ws.map encW) [some (encNs ns), some (.tup (f.map encO)), x2, x3, x4, some d, x6, some (.int e), x8, x9, x10, x11, x12] g ⟨d, x10, x11, rfl, rfl, hd⟩ (by
      rintro k q e1 g1 hq ⟨d1, y10, y11, rfl, rfl, hd1⟩
      rw [List.getElem?_map] at hq
      obtain ⟨w, hw1, rfl⟩ := Option.map_eq_some_iff.mp hq
      have hm := List.mem_of_getElem? hw1
      have hk := (List.getElem?_eq_some_iff.mp hw1).1
      obtain ⟨v, hv1, hv2⟩ := hv w hm
      obtain ⟨d2, hb, hd2⟩ := enough_turn h hL (hw w hm) hv1 hv2 (L := L + k) (by omega) hd1 x2 x3 x4 x6 x8 x9 x12 g1
      exact ⟨[(10, .int w.1), (11, .int w.2)], by simp [encW], by simp, _, g1, .inl hb, d2, some (.int w.1), some (.int w.2), rfl, rfl, hd2⟩)
  rw [List.length_map] at hd'
  exact ⟨d', y10, y11, h1, hd'⟩
end K80

/-! K80t: _law_is_enough is true of the least answers. -/
namespace K80
open PySem PySem.Spec L2 RZ VS
open PyProof.Rows hiding St

def row3 (f : Fs) (w : Way) : List Int := [(val f w).getD 0, w.1, w.2]
theorem enough_dues (ns : List Nd) (f : Fs) (ws : List Way) (hl : ws.length ≤ 1000) (hw : ∀ w ∈ ws, 0 ≤ w.1 ∧ w.1 < f.length) (x2 x3 x4 x5 x6 x7 x8 x10 x11 x12 : Option D) :
    e_law_is_enough1 [some (encNs ns), some (.tup (f.map encO)), x2, x3, x4, x5, x6, x7, x8, some (.tup (ws.map encW)), x10, x11, x12] = M.ret (.lst ((ws.filter fun w => (val f w).isSome).map fun w => tupR (row3 f w))) := by
  unfold e_law_is_enough1
  refine lc_run encW (fun w => (val f w).isSome) (fun w => tupR (row3 f w)) ws (by simp) (Nat.le_trans hl (by decide)) fun w hm => ⟨[(10, .int w.1), (11, .int w.2)], by simp [encW], ?_, fun hp => ?_⟩
  · have hx := (Fd.ix (d := .tup (f.map encO)) (fs := f) (.inr rfl) (hw w hm).1 (hw w hm).2)
    simp [hx, notNonD_encO, val]
  · have hx := (Fd.ix (d := .tup (f.map encO)) (fs := f) (.inr rfl) (hw w hm).1 (hw w hm).2)
    unfold row3
    unfold val at hp ⊢
    cases hf : f.getD w.1.toNat none with
    | none => rw [hf] at hp; cases hp
    | some c =>
      rw [hf] at hx
      simp [hx, encO, tupR]
/-- the way that the saver takes -/
theorem enough_pick {f : Fs} {ws : List Way} {u : Way} {r : List Way} (hs : (ws.filter fun w => (val f w).isSome) = u :: r) {w0 : Way} (h0 : w0 ∈ ws) {a : Int} (ha : val f w0 = some a) :
    ∃ w ∈ ws, ∃ v, val f w = some v ∧ v ≤ a ∧ minL [.lst ((u :: r).map fun w => tupR (row3 f w))] = some (.tup [.int v, .int w.1, .int w.2]) := by
  obtain ⟨z, hz, hle, hmin⟩ := minOf_rows (r.map (row3 f)) (row3 f u)
  rw [← List.map_cons (f := row3 f)] at hz hle
  obtain ⟨w, hw, rfl⟩ := List.mem_map.mp hz
  have hwm : w ∈ ws.filter fun w => (val f w).isSome := by rw [hs]; exact hw
  obtain ⟨hw1, hw2⟩ := List.mem_filter.mp hwm
  obtain ⟨v, hv⟩ := Option.isSome_iff_exists.mp hw2
  refine ⟨w, hw1, v, hv, ?_, ?_⟩
  · have h1 : w0 ∈ u :: r := by rw [← hs]; exact List.mem_filter.mpr ⟨h0, by rw [ha]; rfl⟩
    have := hle (row3 f w0) (List.mem_map.mpr ⟨w0, h1, rfl⟩)
    unfold row3 at this
    rw [hv, ha, ← List.not_lt] at this
    simp only [Option.getD_some, List.cons_lt_cons_iff] at this
    omega
  · have hok := minOk_rows (row3 f) (fun w => ⟨_, _, _, rfl⟩) (u :: r)
    have hm : minOf (tupR (row3 f u)) (r.map fun w => tupR (row3 f w)) = tupR (row3 f w) := by
      rw [← hmin, List.map_map]
      rfl
    rw [List.map_cons] at hok ⊢
    show (if minOk _ then some (minOf _ _) else none) = _
    rw [if_pos hok, hm]
    unfold row3 tupR
    rw [hv]
    rfl
theorem Least.due_le {ns : List Nd} {f : Fs} (hL : Least ns (most ns) f) {i : Nat} {n : Nd} (hn : ns[i]? = some n) {c : Int} (hc : at_ f i = some c) : ∃ a, due n f = some a ∧ a ≤ c := by
  have := hL.pre.ok i n hn
  rw [hc] at this
  obtain ⟨a, ha, hac⟩ := this
  exact ⟨a, (clip_some.mp ha).1, hac⟩
theorem enough_node {ns : List Nd} (h : Good ns) {f : Fs} (hL : Least ns (most ns) f) {a e c : Int} (ha : 0 ≤ a ∧ a < ns.length) (hc : at_ f a.toNat = some c) (hce : c ≤ e) {L : Nat} (hl : L + 3 ≤ line) {d : D} (hd : DT ns f L d) (x2 x3 x4 x8 x9 x10 x11 x12 : Option D) (g : Bag) :
    ∃ d' y8 y9 y10 y11 y12, b_law_is_enough3 [some (encNs ns), some (.tup (f.map encO)), x2, x3, x4, some d, some (.int a), some (.int e), x8, x9, x10, x11, x12] g =
      .ok (.nx [some (encNs ns), some (.tup (f.map encO)), x2, x3, x4, some d', some (.int a), some (.int e), y8, y9, y10, y11, y12]) g ∧ DT ns f (L + 3) d' := by
  have han : a.toNat < ns.length := by omega
  have hn : ns[a.toNat]? = some ns[a.toNat] := List.getElem?_eq_getElem han
  generalize ns[a.toNat] = n at hn
  have hm := List.mem_of_getElem? hn
  have hfit := h.fit
  have hix : ixD (encNs ns) (.int a) = some (encN n) := by
    have := ix_nodes hn
    rwa [Int.toNat_of_nonneg ha.1] at this
  have hto := hfit.to n hm
  have h3 := h.few n hm
  obtain ⟨b, hb, hbc⟩ := hL.due_le hn hc
  have hA : unpH [5] (tupB 2 (consB (nameB 8) (consB (nameB 9) nilB))) (bin2 ixD (varE 0) (varE 6)) [some (encNs ns), some (.tup (f.map encO)), x2, x3, x4, some d, some (.int a), some (.int e), x8, x9, x10, x11, x12] = M.ret (.nx [some (encNs ns), some (.tup (f.map encO)), x2, x3, x4, some d, some (.int a), some (.int e), some (.int n.1), some (.tup (n.2.map encW)), x10, x11, x12]) := by
    simp [hix, encN]
  rcases h.own n hm with ho | ho
  · obtain ⟨⟨w0, hw0, hv0⟩, _⟩ := (due0 ho).mp hb
    cases hs : n.2.filter fun w => (val f w).isSome with
    | nil =>
      have : w0 ∈ n.2.filter fun w => (val f w).isSome := List.mem_filter.mpr ⟨hw0, by rw [hv0]; rfl⟩
      rw [hs] at this
      cases this
    | cons u r =>
      obtain ⟨w, hw, v, hv, hva, hmin⟩ := enough_pick hs hw0 hv0
      obtain ⟨d', y10, y11, h1, hd'⟩ := enough_ways h hL [w] (fun q hq => by rw [List.mem_singleton.mp hq]; exact hto w hw) (e := e) (fun q hq => by rw [List.mem_singleton.mp hq]; exact ⟨v, hv, by omega⟩) (L := L) (by simp only [List.length_cons, List.length_nil]; omega) hd x2 x3 x4 (some (.int a)) (some (.int n.1)) (some (.lst [encW w])) x10 x11 (some (.lst ((u :: r).map fun w => tupR (row3 f w)))) g
      refine ⟨d', some (.int n.1), some (.lst [encW w]), y10, y11, some (.lst ((u :: r).map fun w => tupR (row3 f w))), ?_, ?_⟩
      · have hB : ifS (valT (bin2 eqVD (varE 8) (cE (.int 0)))) (seqS (asgH [5] 12 e_law_is_enough1) (asgH [5] 9 (lstE (consA (slE (callE minL (consA (varE 12) nilA)) (someP (cE (.int 1))) noP) nilA)))) nxS [some (encNs ns), some (.tup (f.map encO)), x2, x3, x4, some d, some (.int a), some (.int e), some (.int n.1), some (.tup (n.2.map encW)), x10, x11, x12] = M.ret (.nx [some (encNs ns), some (.tup (f.map encO)), x2, x3, x4, some d, some (.int a), some (.int e), some (.int n.1), some (.lst [encW w]), x10, x11, some (.lst ((u :: r).map fun w => tupR (row3 f w)))]) := by
          have hC : asgH [5] 12 e_law_is_enough1 [some (encNs ns), some (.tup (f.map encO)), x2, x3, x4, some d, some (.int a), some (.int e), some (.int n.1), some (.tup (n.2.map encW)), x10, x11, x12] = M.ret (.nx [some (encNs ns), some (.tup (f.map encO)), x2, x3, x4, some d, some (.int a), some (.int e), some (.int n.1), some (.tup (n.2.map encW)), x10, x11, some (.lst ((u :: r).map fun w => tupR (row3 f w)))]) := by
            rw [← hs]
            exact asgH_of (enough_dues ns f n.2 (by omega) (fun w hw => by rw [hL.pre.len]; exact hto w hw) _ _ _ _ _ _ _ _ _ _)
          have hD : slE (callE minL (consA (varE 12) nilA)) (someP (cE (.int 1))) noP (hide [5] [some (encNs ns), some (.tup (f.map encO)), x2, x3, x4, some d, some (.int a), some (.int e), some (.int n.1), some (.tup (n.2.map encW)), x10, x11, some (.lst ((u :: r).map fun w => tupR (row3 f w)))]) = M.ret (encW w) := by
            rw [slE_eq, call1_of (x := .lst ((u :: r).map fun w => tupR (row3 f w))) rfl hmin]
            simp [encW]
          have hE : asgH [5] 9 (lstE (consA (slE (callE minL (consA (varE 12) nilA)) (someP (cE (.int 1))) noP) nilA)) [some (encNs ns), some (.tup (f.map encO)), x2, x3, x4, some d, some (.int a), some (.int e), some (.int n.1), some (.tup (n.2.map encW)), x10, x11, some (.lst ((u :: r).map fun w => tupR (row3 f w)))] = M.ret (.nx [some (encNs ns), some (.tup (f.map encO)), x2, x3, x4, some d, some (.int a), some (.int e), some (.int n.1), some (.lst [encW w]), x10, x11, some (.lst ((u :: r).map fun w => tupR (row3 f w)))]) := by
            refine asgH_of (d := .lst [encW w]) ?_
            rw [lstE_eq, consA_eq, hD]
            rfl
          rw [ifS_eq, valT_eq, bin2_of (x := .int n.1) (y := .int 0) rfl rfl (eqVD_ii _ _), bnd_ret, ho]
          simp only [decide_true, asB_bl, ofO_someM, bnd_ret, if_true]
          rw [← ho, seqS_of hC, hE]
        unfold b_law_is_enough3
        rw [seqS_of hA, seqS_of hB, ← h1]
        rfl
      · obtain ⟨ks, xs, e1, e2, e3⟩ := hd'
        exact ⟨ks, xs, e1, by simp only [List.length_cons, List.length_nil] at e2; omega, e3⟩
  · have hall := ((due1 (by omega)).mp hb).2
    obtain ⟨d', y10, y11, h1, hd'⟩ := enough_ways h hL n.2 (fun q hq => hto q hq) (e := e) (fun q hq => by obtain ⟨v, h1, h2⟩ := hall q hq; exact ⟨v, h1, by omega⟩) (L := L) (by omega) hd x2 x3 x4 (some (.int a)) (some (.int n.1)) (some (.tup (n.2.map encW))) x10 x11 x12 g
    refine ⟨d', some (.int n.1), some (.tup (n.2.map encW)), y10, y11, x12, ?_, ?_⟩
    · unfold b_law_is_enough3
      have hB : ifS (valT (bin2 eqVD (varE 8) (cE (.int 0)))) (seqS (asgH [5] 12 e_law_is_enough1) (asgH [5] 9 (lstE (consA (slE (callE minL (consA (varE 12) nilA)) (someP (cE (.int 1))) noP) nilA)))) nxS [some (encNs ns), some (.tup (f.map encO)), x2, x3, x4, some d, some (.int a), some (.int e), some (.int n.1), some (.tup (n.2.map encW)), x10, x11, x12] = M.ret (.nx [some (encNs ns), some (.tup (f.map encO)), x2, x3, x4, some d, some (.int a), some (.int e), some (.int n.1), some (.tup (n.2.map encW)), x10, x11, x12]) := by
        rw [ifS_eq, valT_eq, bin2_of (x := .int n.1) (y := .int 0) rfl rfl (eqVD_ii _ _), bnd_ret, ho]
        rfl
      rw [seqS_of hA, seqS_of hB, ← h1]
      rfl
    · obtain ⟨ks, xs, e1, e2, e3⟩ := hd'
      exact ⟨ks, xs, e1, by omega, e3⟩
end K80

/-! K80u: _law_is_enough, the loops. -/
namespace K80
open PySem PySem.Spec L2 RZ VS
open PyProof.Rows hiding St

theorem enough_rows {ns : List Nd} (h : Good ns) {f : Fs} (hL : Least ns (most ns) f) (ks : List (List Key)) (xs : List D) (hK : ∀ k ∈ ks, Kok ns f k) (hl : 3 * ks.length ≤ line) (x2 x4 x6 x7 x8 x9 x10 x11 x12 : Option D) (g : Bag) :
    ∃ d' y6 y7 y8 y9 y10 y11 y12, forK [5] 3 (tupB 2 (consB (nameB 6) (consB (nameB 7) nilB))) b_law_is_enough3 [some (encNs ns), some (.tup (f.map encO)), x2, some (.dT ks xs), x4, some (.dT [] []), x6, x7, x8, x9, x10, x11, x12] g =
      .ok (.nx [some (encNs ns), some (.tup (f.map encO)), x2, some (.dT ks xs), x4, some d', y6, y7, y8, y9, y10, y11, y12]) g ∧ DT ns f (3 * ks.length) d' := by
  obtain ⟨e1, g', h1, d', y6, y7, y8, y9, y10, y11, y12, rfl, rfl, hd'⟩ := for_run (O := [5]) (bd := tupB 2 (consB (nameB 6) (consB (nameB 7) nilB))) (ρ := b_law_is_enough3)
    (fun k e1 g' => ∃ d' y6 y7 y8 y9 y10 y11 y12, e1 = [some (encNs ns), some (.tup (f.map encO)), x2, some (.dT ks xs), x4, some d', y6, y7, y8, y9, y10, y11, y12] ∧ g' = g ∧ DT ns f (3 * k) d') (ks.map tD) [some (encNs ns), some (.tup (f.map encO)), x2, some (.dT ks xs), x4, some (.dT [] []), x6, x7, x8, x9, x10, x11, x12] g
    ⟨_, x6, x7, x8, x9, x10, x11, x12, rfl, rfl, [], [], rfl, Nat.le_refl _, fun _ z => nomatch z⟩ (by
      rintro i q e1 g1 hq ⟨d1, y6, y7, y8, y9, y10, y11, y12, rfl, rfl, hd1⟩
      rw [List.getElem?_map] at hq
      obtain ⟨k, hk1, rfl⟩ := Option.map_eq_some_iff.mp hq
      have hm := List.mem_of_getElem? hk1
      have hi := (List.getElem?_eq_some_iff.mp hk1).1
      obtain ⟨a, e, c, rfl, ha, hb, hc, hce⟩ := hK k hm
      obtain ⟨d2, z8, z9, z10, z11, z12, hb, hd2⟩ := enough_node h hL ⟨ha, hb⟩ hc hce (L := 3 * i) (by omega) hd1 x2 (some (.dT ks xs)) x4 y8 y9 y10 y11 y12 g1
      exact ⟨[(6, .int a), (7, .int e)], rfl, rfl, _, g1, .inl hb, d2, _, _, z8, z9, z10, z11, z12, rfl, rfl, hd2⟩)
  rw [List.length_map] at hd'
  exact ⟨d', y6, y7, y8, y9, y10, y11, y12, h1, hd'⟩
theorem enough_step {ns : List Nd} (h : Good ns) {f : Fs} (hL : Least ns (most ns) f) {L : Nat} (hl : 3 * L ≤ line) {d : D} (hd : DT ns f L d) (x2 x4 x5 x6 x7 x8 x9 x10 x11 x12 : Option D) (g : Bag) :
    ∃ d' y6 y7 y8 y9 y10 y11 y12, b_law_is_enough4 [some (encNs ns), some (.tup (f.map encO)), x2, some d, x4, x5, x6, x7, x8, x9, x10, x11, x12] g =
      .ok (.nx [some (encNs ns), some (.tup (f.map encO)), x2, some d', x4, none, y6, y7, y8, y9, y10, y11, y12]) g ∧ DT ns f (3 * L) d' := by
  obtain ⟨ks, xs, rfl, hk, hK⟩ := hd
  obtain ⟨d', y6, y7, y8, y9, y10, y11, y12, h1, ks', xs', rfl, hk', hK'⟩ := enough_rows h hL ks xs hK (by omega) x2 x4 x6 x7 x8 x9 x10 x11 x12 g
  refine ⟨_, y6, y7, y8, y9, y10, y11, y12, ?_, ks', xs', rfl, by omega, hK'⟩
  have hA : asgNH [3] 5 newT [some (encNs ns), some (.tup (f.map encO)), x2, some (.dT ks xs), x4, x5, x6, x7, x8, x9, x10, x11, x12] = M.ret (.nx [some (encNs ns), some (.tup (f.map encO)), x2, some (.dT ks xs), x4, some (.dT [] []), x6, x7, x8, x9, x10, x11, x12]) := rfl
  unfold b_law_is_enough4
  rw [seqS_of hA, seqS_ok h1]
  rfl
theorem enough_turns {ns : List Nd} (h : Good ns) {f : Fs} (hL : Least ns (most ns) f) {d : D} (hd : DT ns f 1 d) (x2 x4 x5 x6 x7 x8 x9 x10 x11 x12 : Option D) (g : Bag) :
    ∃ d' y4 y5 y6 y7 y8 y9 y10 y11 y12, forH [3] (rng1I (consA (cE (.int 12)) nilA)) (nameB 4) b_law_is_enough4 [some (encNs ns), some (.tup (f.map encO)), x2, some d, x4, x5, x6, x7, x8, x9, x10, x11, x12] g =
      .ok (.nx [some (encNs ns), some (.tup (f.map encO)), x2, some d', y4, y5, y6, y7, y8, y9, y10, y11, y12]) g := by
  obtain ⟨e1, g', h1, d', y4, y5, y6, y7, y8, y9, y10, y11, y12, rfl, rfl, hd'⟩ := for_run (O := [3]) (bd := nameB 4) (ρ := b_law_is_enough4)
    (fun k e1 g' => ∃ d' y4 y5 y6 y7 y8 y9 y10 y11 y12, e1 = [some (encNs ns), some (.tup (f.map encO)), x2, some d', y4, y5, y6, y7, y8, y9, y10, y11, y12] ∧ g' = g ∧ DT ns f (3 ^ k) d') (rngD 0 12) [some (encNs ns), some (.tup (f.map encO)), x2, some d, x4, x5, x6, x7, x8, x9, x10, x11, x12] g
    ⟨d, x4, x5, x6, x7, x8, x9, x10, x11, x12, rfl, rfl, hd⟩ (by
      rintro i q e1 g1 hq ⟨d1, y4, y5, y6, y7, y8, y9, y10, y11, y12, rfl, rfl, hd1⟩
      rw [rngD_get] at hq
      split at hq
      · rename_i hi
        cases hq
        have hp : 3 ^ i ≤ 3 ^ 12 := Nat.pow_le_pow_right (by decide) (by omega)
        have hp2 : 3 * 3 ^ 12 ≤ line := by decide
        have hp3 : 3 * 3 ^ i ≤ line := Nat.le_trans (Nat.mul_le_mul_left 3 hp) hp2
        obtain ⟨d2, z6, z7, z8, z9, z10, z11, z12, hb, hd2⟩ := enough_step h hL (L := 3 ^ i) hp3 hd1 x2 (some (.int i)) y5 y6 y7 y8 y9 y10 y11 y12 g1
        exact ⟨[(4, .int i)], rfl, rfl, _, g1, .inl hb, d2, _, _, z6, z7, z8, z9, z10, z11, z12, rfl, rfl, by rw [Nat.pow_succ, Nat.mul_comm]; exact hd2⟩
      · cases hq)
  refine ⟨d', y4, y5, y6, y7, y8, y9, y10, y11, y12, ?_⟩
  rw [forH_eq, rng1_nat (k := 12) rfl (by decide), bnd_ret]
  exact h1
theorem enough_from {ns : List Nd} (h : Good ns) {f : Fs} (hL : Least ns (most ns) f) {k : Nat} (hk : k < ns.length) (x3 x4 x5 x6 x7 x8 x9 x10 x11 x12 : Option D) (g : Bag) :
    ∃ y3 y4 y5 y6 y7 y8 y9 y10 y11 y12, b_law_is_enough5 [some (encNs ns), some (.tup (f.map encO)), some (.int k), x3, x4, x5, x6, x7, x8, x9, x10, x11, x12] g =
      .ok (.nx [some (encNs ns), some (.tup (f.map encO)), some (.int k), y3, y4, y5, y6, y7, y8, y9, y10, y11, y12]) g := by
  have hx := (Fd.ix (d := .tup (f.map encO)) (fs := f) (i := (k : Int)) (.inr rfl) (by omega) (by rw [hL.pre.len]; omega)).trans (show _ = some (encO (at_ f k)) by rw [Int.toNat_natCast]; rfl)
  cases hc : at_ f k with
  | none =>
    rw [hc] at hx
    refine ⟨x3, x4, x5, x6, x7, x8, x9, x10, x11, x12, ?_⟩
    unfold b_law_is_enough5
    rw [ifS_eq, valT_eq, bin2_of (x := .non) (y := .non) (z := .bl false) (bin2_of (x := .tup (f.map encO)) (y := .int k) rfl rfl hx) rfl rfl]
    rfl
  | some c =>
    rw [hc] at hx
    obtain ⟨d', y4, y5, y6, y7, y8, y9, y10, y11, y12, h1⟩ := enough_turns h hL (d := .dT [[.inl k, .inl c]] [.bl true]) ⟨_, _, rfl, Nat.le_refl _, fun q hq => by
      rw [List.mem_singleton.mp hq]
      exact ⟨k, c, c, rfl, by omega, by omega, by rw [Int.toNat_natCast]; exact hc, Int.le_refl _⟩⟩ (some (.int k)) x4 x5 x6 x7 x8 x9 x10 x11 x12 g
    refine ⟨some d', y4, y5, y6, y7, y8, y9, y10, y11, y12, ?_⟩
    unfold b_law_is_enough5
    rw [ifS_eq, valT_eq, bin2_of (x := .int c) (y := .non) (z := .bl true) (bin2_of (x := .tup (f.map encO)) (y := .int k) rfl rfl hx) rfl rfl]
    have hA : asgNH [] 3 (disp1T (tupE (consA (varE 2) (consA (bin2 ixD (varE 1) (varE 2)) nilA))) (cE (.bl true))) [some (encNs ns), some (.tup (f.map encO)), some (.int k), x3, x4, x5, x6, x7, x8, x9, x10, x11, x12] = M.ret (.nx [some (encNs ns), some (.tup (f.map encO)), some (.int k), some (.dT [[.inl k, .inl c]] [.bl true]), x4, x5, x6, x7, x8, x9, x10, x11, x12]) := by
      refine asgNH_of (d := .dT [[.inl k, .inl c]] [.bl true]) ?_
      unfold disp1T
      rw [show tupE (consA (varE 2) (consA (bin2 ixD (varE 1) (varE 2)) nilA)) (hide [] [some (encNs ns), some (.tup (f.map encO)), some (.int k), x3, x4, x5, x6, x7, x8, x9, x10, x11, x12]) = M.ret (.tup [.int k, .int c]) by
        rw [hide_nil, tupE_eq, consA_eq, consA_eq, bin2_of (x := .tup (f.map encO)) (y := .int k) rfl rfl hx]
        rfl]
      rfl
    simp only [asB_bl, ofO_someM, bnd_ret, if_true]
    rw [seqS_of hA]
    exact h1
theorem enough_at {ns : List Nd} (h : Good ns) {f : Fs} (hL : Least ns (most ns) f) (g : Bag) : r__law_is_enough [encNs ns, .tup (f.map encO)] g = .ok (.bl true) g := by
  have l6 := h.l6
  obtain ⟨e1, g', h1, y2, y3, y4, y5, y6, y7, y8, y9, y10, y11, y12, rfl, rfl⟩ := for_run (O := []) (bd := nameB 2) (ρ := b_law_is_enough5)
    (fun k e1 g' => ∃ y2 y3 y4 y5 y6 y7 y8 y9 y10 y11 y12, e1 = [some (encNs ns), some (.tup (f.map encO)), y2, y3, y4, y5, y6, y7, y8, y9, y10, y11, y12] ∧ g' = g) (rngD 0 ns.length) [some (encNs ns), some (.tup (f.map encO)), none, none, none, none, none, none, none, none, none, none, none] g
    ⟨none, none, none, none, none, none, none, none, none, none, none, rfl, rfl⟩ (by
      rintro i q e1 g1 hq ⟨y2, y3, y4, y5, y6, y7, y8, y9, y10, y11, y12, rfl, rfl⟩
      rw [rngD_get] at hq
      split at hq
      · rename_i hi
        cases hq
        obtain ⟨z3, z4, z5, z6, z7, z8, z9, z10, z11, z12, hb⟩ := enough_from h hL hi y3 y4 y5 y6 y7 y8 y9 y10 y11 y12 g1
        exact ⟨[(2, .int i)], rfl, rfl, _, g1, .inl hb, _, z3, z4, z5, z6, z7, z8, z9, z10, z11, z12, rfl, rfl⟩
      · cases hq)
  refine fnD_ok (env := [some (encNs ns), some (.tup (f.map encO)), none, none, none, none, none, none, none, none, none, none, none]) rfl ?_
  have hlen : lenL [encNs ns] = some (.int ns.length) := by simp [encNs]
  have hA : forH [] (rng1I (consA (callE lenL (consA (varE 0) nilA)) nilA)) (nameB 2) b_law_is_enough5 [some (encNs ns), some (.tup (f.map encO)), none, none, none, none, none, none, none, none, none, none, none] g' = .ok (.nx [some (encNs ns), some (.tup (f.map encO)), y2, y3, y4, y5, y6, y7, y8, y9, y10, y11, y12]) g' := by
    rw [forH_eq, hide_nil, rng1_nat (k := ns.length) (call1_of (x := encNs ns) rfl hlen) (by omega), bnd_ret]
    exact h1
  unfold s__law_is_enough
  rw [seqS_ok hA]
  rfl
theorem enough_eq {ns : List Nd} (h : Good ns) {f : Fs} (hL : Least ns (most ns) f) : r__law_is_enough [encNs ns, .tup (f.map encO)] = M.ret (.bl true) := funext fun g => enough_at h hL g
end K80

/-! K80v: _law_choices, _law_edges. -/
namespace K80
open PySem PySem.Spec L2 RZ VS
open PyProof.Rows hiding St

abbrev Sg := List (Option Way)
def encC : Option Way → D
  | none => .non
  | some w => encW w
def encS (s : Sg) : D := .tup (s.map encC)
def grow (n : Nd) (s : Sg) : List Sg := if n.1 = 0 then n.2.map fun w => s ++ [some w] else [s ++ [none]]
def ext (n : Nd) (acc : List Sg) : List Sg := acc.flatMap (grow n)
def chs (ns : List Nd) : List Sg := ns.foldl (fun acc n => ext n acc) [[]]
inductive Ch : List Nd → Sg → Prop
  | nil : Ch [] []
  | mine {n : Nd} {ns : List Nd} {w : Way} {s : Sg} : n.1 = 0 → w ∈ n.2 → Ch ns s → Ch (n :: ns) (some w :: s)
  | his {n : Nd} {ns : List Nd} {s : Sg} : n.1 ≠ 0 → Ch ns s → Ch (n :: ns) (none :: s)
theorem mem_chs_from : ∀ (ns : List Nd) (acc : List Sg) (s : Sg), s ∈ ns.foldl (fun acc n => ext n acc) acc ↔ ∃ a ∈ acc, ∃ t, Ch ns t ∧ s = a ++ t
  | [], acc, s => by
    constructor
    · intro h; exact ⟨s, h, [], .nil, by rw [List.append_nil]⟩
    · rintro ⟨a, ha, t, ht, rfl⟩
      cases ht
      rw [List.append_nil]; exact ha
  | n :: ns, acc, s => by
    rw [List.foldl_cons, mem_chs_from ns (ext n acc) s]
    constructor
    · rintro ⟨b, hb, t, ht, rfl⟩
      obtain ⟨a, ha, hg⟩ := List.mem_flatMap.mp hb
      unfold grow at hg
      split at hg
      · rename_i h0
        obtain ⟨w, hw, rfl⟩ := List.mem_map.mp hg
        exact ⟨a, ha, some w :: t, .mine h0 hw ht, by simp⟩
      · rename_i h0
        rw [List.mem_singleton.mp hg]
        exact ⟨a, ha, none :: t, .his h0 ht, by simp⟩
    · rintro ⟨a, ha, t, ht, rfl⟩
      cases ht with
      | mine h0 hw ht =>
        rename_i w t
        exact ⟨a ++ [some w], List.mem_flatMap.mpr ⟨a, ha, by unfold grow; rw [if_pos h0]; exact List.mem_map.mpr ⟨w, hw, rfl⟩⟩, t, ht, by simp⟩
      | his h0 ht =>
        rename_i t
        exact ⟨a ++ [none], List.mem_flatMap.mpr ⟨a, ha, by unfold grow; rw [if_neg h0]; exact List.mem_singleton.mpr rfl⟩, t, ht, by simp⟩
theorem mem_chs {ns : List Nd} {s : Sg} : s ∈ chs ns ↔ Ch ns s := by
  unfold chs
  rw [mem_chs_from]
  constructor
  · rintro ⟨a, ha, t, ht, rfl⟩
    rw [List.mem_singleton.mp ha]
    exact ht
  · intro h; exact ⟨[], List.mem_singleton.mpr rfl, s, h, rfl⟩
theorem Ch.length {ns : List Nd} {s : Sg} (h : Ch ns s) : s.length = ns.length := by
  induction h with
  | nil => rfl
  | mine _ _ _ ih => simp [ih]
  | his _ _ ih => simp [ih]
theorem Ch.at {ns : List Nd} {s : Sg} (h : Ch ns s) : ∀ {i : Nat} {n : Nd}, ns[i]? = some n → (n.1 = 0 ∧ ∃ w ∈ n.2, s[i]? = some (some w)) ∨ (n.1 ≠ 0 ∧ s[i]? = some none) := by
  induction h with
  | nil => intro i n h; cases h
  | mine h0 hw _ ih =>
    intro i n h
    cases i with
    | zero => cases h; exact .inl ⟨h0, _, hw, rfl⟩
    | succ i => exact ih h
  | his h0 _ ih =>
    intro i n h
    cases i with
    | zero => cases h; exact .inr ⟨h0, rfl⟩
    | succ i => exact ih h
theorem grow_len {n : Nd} (h3 : n.2.length ≤ 3) (s : Sg) : (grow n s).length ≤ 3 := by
  unfold grow
  split
  · rw [List.length_map]; exact h3
  · exact Nat.le_of_ble_eq_true rfl
theorem ext_len {n : Nd} (h3 : n.2.length ≤ 3) : ∀ acc : List Sg, (ext n acc).length ≤ 3 * acc.length
  | [] => Nat.le_refl _
  | s :: r => by
    have h1 := grow_len h3 s
    have h2 := ext_len h3 r
    unfold ext at h2 ⊢
    rw [List.flatMap_cons, List.length_append, List.length_cons]
    omega
theorem grow_size {n : Nd} {s t : Sg} (h : t ∈ grow n s) : t.length = s.length + 1 := by
  unfold grow at h
  split at h
  · obtain ⟨w, _, rfl⟩ := List.mem_map.mp h; simp
  · rw [List.mem_singleton.mp h]; simp
/-! ### the walk -/
theorem flat_encC (o : Option Way) : flat (encC o) = true := by cases o <;> rfl
theorem flats_map {α : Type} (e : α → D) (h : ∀ x, flat (e x) = true) : ∀ xs : List α, flats (xs.map e) = true
  | [] => rfl
  | x :: xs => by simp [flats, h x, flats_map e h xs]
theorem flat_encS (s : Sg) : flat (encS s) = true := flats_map encC flat_encC s
theorem addD_tt {xs ys : List D} (h : xs.length + ys.length ≤ line) : addD (.tup xs) (.tup ys) = some (.tup (xs ++ ys)) := by
  show (if _ then _ else _) = _
  rw [if_pos h]
theorem choices_one (n : Nd) (h3 : n.2.length ≤ 1000) (s : Sg) (hs : s.length ≤ 1000) (x0 x1 x2 x3 x5 x7 : Option D) : e_law_choices1 [x0, x1, x2, x3, some (.tup (n.2.map encW)), x5, some (encS s), x7] = M.ret (.lst (n.2.map fun w => encS (s ++ [some w]))) := by
  unfold e_law_choices1
  refine lc_runA encW (fun w => encS (s ++ [some w])) n.2 (by simp) (Nat.le_trans h3 (by decide)) fun w hw => ⟨[(7, encW w)], rfl, ?_⟩
  refine bin2_of (x := encS s) (y := .tup [encW w]) rfl rfl ?_
  have h2 : (s.map encC).length + ([encW w] : List D).length ≤ line := by
    simp only [List.length_map, List.length_cons, List.length_nil]
    unfold line
    omega
  unfold encS
  rw [addD_tt h2, List.map_append]
  rfl
theorem choices_turn (n : Nd) (h3 : n.2.length ≤ 3) (s : Sg) (hs : s.length ≤ 1000) (ms : List Sg) (hm : ms.length + 3 ≤ line) (x0 x2 x7 : Option D) :
    b_law_choices2 [x0, some (.int 0), x2, some (.int n.1), some (.tup (n.2.map encW)), some (.lst (ms.map encS)), some (encS s), x7] = M.ret (.nx [x0, some (.int 0), x2, some (.int n.1), some (.tup (n.2.map encW)), some (.lst ((ms ++ grow n s).map encS)), some (encS s), x7]) := by
  have hone := choices_one n (by omega) s hs x0 (some (.int 0)) x2 (some (.int n.1)) (some (.lst (ms.map encS))) x7
  unfold b_law_choices2
  rw [ifS_eq, valT_eq, bin2_of (x := .int n.1) (y := .int 0) rfl rfl (eqVD_ii _ _), bnd_ret, asB_bl, ofO_someM, bnd_ret]
  by_cases h0 : n.1 = 0
  · rw [if_pos (by simpa using h0)]
    have hl : addL (.lst (ms.map encS)) (.lst (n.2.map fun w => encS (s ++ [some w]))) = some (.lst ((ms ++ grow n s).map encS)) := by
      show (if _ then _ else _) = _
      rw [if_pos (by rw [List.length_map, List.length_map]; omega)]
      unfold grow
      rw [if_pos h0, List.map_append, List.map_map]
      rfl
    rw [asgN_eq, bin2_of (x := .lst (ms.map encS)) rfl hone hl, bnd_ret, if_pos (show flatIn (.lst _) = true from flats_map encS flat_encS _)]
    rfl
  · rw [if_neg (by simpa using h0)]
    have h2 : (s.map encC).length + ([.non] : List D).length ≤ line := by
      simp only [List.length_map, List.length_cons, List.length_nil]
      unfold line
      omega
    have he : bin2 addD (varE 6) (tupE (consA (cE .non) nilA)) (hide [5] [x0, some (.int 0), x2, some (.int n.1), some (.tup (n.2.map encW)), some (.lst (ms.map encS)), some (encS s), x7]) = M.ret (encS (s ++ [none])) := by
      refine bin2_of (x := encS s) (y := .tup [.non]) rfl rfl ?_
      unfold encS
      rw [addD_tt h2, List.map_append]
      rfl
    rw [appH_eq, show lstAt [x0, some (.int 0), x2, some (.int n.1), some (.tup (n.2.map encW)), some (.lst (ms.map encS)), some (encS s), x7] 5 = some (ms.map encS) from rfl, ofO_someM, bnd_ret, he, bnd_ret, if_pos (by rw [List.length_map]; omega)]
    unfold grow
    rw [if_neg h0, List.map_append]
    rfl
theorem choices_node (n : Nd) (h3 : n.2.length ≤ 3) (acc : List Sg) (hs : ∀ s ∈ acc, s.length ≤ 1000) (hm : 3 * acc.length + 3 ≤ line) (x0 x5 x6 x7 : Option D) (g : Bag) :
    ∃ y6, b_law_choices3 [x0, some (.int 0), some (.lst (acc.map encS)), some (.int n.1), some (.tup (n.2.map encW)), x5, x6, x7] g = .ok (.nx [x0, some (.int 0), some (.lst ((ext n acc).map encS)), some (.int n.1), some (.tup (n.2.map encW)), some (.lst ((ext n acc).map encS)), y6, x7]) g := by
  obtain ⟨e1, g', h1, y6, he, rfl⟩ := for_run (O := [5]) (bd := nameB 6) (ρ := b_law_choices2)
    (fun k e1 g' => ∃ y6, e1 = [x0, some (.int 0), some (.lst (acc.map encS)), some (.int n.1), some (.tup (n.2.map encW)), some (.lst ((ext n (acc.take k)).map encS)), y6, x7] ∧ g' = g) (acc.map encS) [x0, some (.int 0), some (.lst (acc.map encS)), some (.int n.1), some (.tup (n.2.map encW)), some (.lst []), x6, x7] g ⟨x6, rfl, rfl⟩ (by
      rintro i q e1 g1 hq ⟨y6, rfl, rfl⟩
      rw [List.getElem?_map] at hq
      obtain ⟨s, hs1, rfl⟩ := Option.map_eq_some_iff.mp hq
      have hm1 := List.mem_of_getElem? hs1
      have hl := ext_len h3 (acc.take i)
      have hl2 : (acc.take i).length ≤ acc.length := by rw [List.length_take]; omega
      have ht := choices_turn n h3 s (hs s hm1) (ext n (acc.take i)) (by omega) x0 (some (.lst (acc.map encS))) x7
      refine ⟨[(6, encS s)], rfl, rfl, _, g1, .inl (by
        show b_law_choices2 [x0, some (.int 0), some (.lst (acc.map encS)), some (.int n.1), some (.tup (n.2.map encW)), some (.lst ((ext n (acc.take i)).map encS)), some (encS s), x7] g1 = _
        rw [ht]
        rfl), some (encS s), ?_, rfl⟩
      have : ext n (acc.take (i + 1)) = ext n (acc.take i) ++ grow n s := by
        unfold ext
        rw [List.take_add_one, hs1, List.flatMap_append]
        simp
      rw [this])
  rw [List.length_map, List.take_length] at he
  refine ⟨y6, ?_⟩
  unfold b_law_choices3
  have hA : asgNH [] 5 (lstE nilA) [x0, some (.int 0), some (.lst (acc.map encS)), some (.int n.1), some (.tup (n.2.map encW)), x5, x6, x7] = M.ret (.nx [x0, some (.int 0), some (.lst (acc.map encS)), some (.int n.1), some (.tup (n.2.map encW)), some (.lst []), x6, x7]) := rfl
  have hB : forH [5] (seqI (varE 2)) (nameB 6) b_law_choices2 [x0, some (.int 0), some (.lst (acc.map encS)), some (.int n.1), some (.tup (n.2.map encW)), some (.lst []), x6, x7] g' = .ok (.nx [x0, some (.int 0), some (.lst (acc.map encS)), some (.int n.1), some (.tup (n.2.map encW)), some (.lst ((ext n acc).map encS)), y6, x7]) g' := by
    rw [← he]
    exact h1
  rw [seqS_of hA, seqS_ok hB]
  rfl
end K80

/-! K80w: _law_choices, _law_edges: the whole defs. -/
namespace K80
open PySem PySem.Spec L2 RZ VS
open PyProof.Rows hiding St

theorem chs_step (ns : List Nd) {k : Nat} {n : Nd} (h : ns[k]? = some n) : chs (ns.take (k + 1)) = ext n (chs (ns.take k)) := by
  unfold chs
  rw [List.take_add_one, h, List.foldl_append]
  rfl
theorem chs_len (ns : List Nd) (h3 : ∀ n ∈ ns, n.2.length ≤ 3) : ∀ k, k ≤ ns.length → (chs (ns.take k)).length ≤ 3 ^ k
  | 0, _ => by simp [chs]
  | k + 1, h => by
    have hn : ns[k]? = some ns[k] := List.getElem?_eq_getElem h
    rw [chs_step ns hn, Nat.pow_succ, Nat.mul_comm]
    exact Nat.le_trans (ext_len (h3 _ (List.getElem_mem h)) _) (Nat.mul_le_mul_left 3 (chs_len ns h3 k (by omega)))
theorem choices_at {ns : List Nd} (h : Good ns) (g : Bag) : r__law_choices [encNs ns, .int 0] g = .ok (.lst ((chs ns).map encS)) g := by
  have l6 := h.l6
  obtain ⟨e1, g', h1, y3, y4, y5, y6, y7, he, rfl⟩ := for_run (O := []) (bd := tupB 2 (consB (nameB 3) (consB (nameB 4) nilB))) (ρ := b_law_choices3)
    (fun k e1 g' => ∃ y3 y4 y5 y6 y7, e1 = [some (encNs ns), some (.int 0), some (.lst ((chs (ns.take k)).map encS)), y3, y4, y5, y6, y7] ∧ g' = g) (ns.map encN) [some (encNs ns), some (.int 0), some (.lst [encS []]), none, none, none, none, none] g ⟨none, none, none, none, none, rfl, rfl⟩ (by
      rintro i q e1 g1 hq ⟨y3, y4, y5, y6, y7, rfl, rfl⟩
      rw [List.getElem?_map] at hq
      obtain ⟨n, hn, rfl⟩ := Option.map_eq_some_iff.mp hq
      have hm := List.mem_of_getElem? hn
      have hi := (List.getElem?_eq_some_iff.mp hn).1
      have hl := chs_len ns h.few i (by omega)
      have hp : 3 ^ i ≤ 3 ^ 6 := Nat.pow_le_pow_right (by decide) (by omega)
      have hb : 3 * 3 ^ 6 + 3 ≤ line := by decide
      obtain ⟨z6, hz⟩ := choices_node n (h.few n hm) (chs (ns.take i)) (fun s hs => by
        have := (mem_chs.mp hs).length
        rw [List.length_take] at this
        omega) (by omega) (some (encNs ns)) y5 y6 y7 g1
      refine ⟨[(3, .int n.1), (4, .tup (n.2.map encW))], by simp [encN], by simp, _, g1, .inl hz, some (.int n.1), some (.tup (n.2.map encW)), some (.lst ((ext n (chs (ns.take i))).map encS)), z6, y7, ?_, rfl⟩
      rw [chs_step ns hn])
  rw [List.length_map, List.take_length] at he
  refine fnD_ok (env := [some (encNs ns), some (.int 0), none, none, none, none, none, none]) rfl ?_
  have hA : asgH [] 2 (lstE (consA (tupE nilA) nilA)) [some (encNs ns), some (.int 0), none, none, none, none, none, none] = M.ret (.nx [some (encNs ns), some (.int 0), some (.lst [encS []]), none, none, none, none, none]) := rfl
  have hB : forH [] (seqI (varE 0)) (tupB 2 (consB (nameB 3) (consB (nameB 4) nilB))) b_law_choices3 [some (encNs ns), some (.int 0), some (.lst [encS []]), none, none, none, none, none] g' = .ok (.nx [some (encNs ns), some (.int 0), some (.lst ((chs ns).map encS)), y3, y4, y5, y6, y7]) g' := by
    rw [← he]
    exact h1
  unfold s__law_choices
  rw [seqS_of hA, seqS_ok hB]
  rfl
theorem choices_eq {ns : List Nd} (h : Good ns) : r__law_choices [encNs ns, .int 0] = M.ret (.lst ((chs ns).map encS)) := funext fun g => choices_at h g
/-! ### edges -/
abbrev Es := List (List Way)
def edgeAt (ns : List Nd) (s : Sg) (i : Nat) : List Way := match s[i]? with
  | some (some w) => [w]
  | _ => (ns[i]?.map (·.2)).getD []
def edges (ns : List Nd) (s : Sg) : Es := (List.range ns.length).map (edgeAt ns s)
def encWs (ws : List Way) : D := .tup (ws.map encW)
def encE (es : Es) : D := .lst (es.map encWs)
theorem edges_eq {ns : List Nd} (h : Good ns) {s : Sg} (hs : Ch ns s) : r__law_edges [encNs ns, encS s] = M.ret (encE (edges ns s)) := by
  have l6 := h.l6
  have hlen : lenL [encNs ns] = some (.int ns.length) := by simp [encNs]
  have hr : rng1I (consA (callE lenL (consA (varE 0) nilA)) nilA) [some (encNs ns), some (encS s), none] = M.ret (rngD 0 ns.length) := rng1_nat (call1_of (x := encNs ns) rfl hlen) (by omega)
  have he : e_law_edges1 [some (encNs ns), some (encS s), none] = M.ret (encE (edges ns s)) := by
    unfold e_law_edges1
    rw [lc_runA (fun (i : Nat) => D.int (0 + (i : Int))) (fun i => encWs (edgeAt ns s i)) (List.range ns.length) hr (by rw [List.length_range]; unfold line; omega) fun i hi => ⟨[(2, .int (0 + (i : Int)))], rfl, ?_⟩]
    · unfold encE edges
      rw [List.map_map]
      rfl
    · rw [Int.zero_add]
      have hi2 := List.mem_range.mp hi
      have hn : ns[i]? = some ns[i] := List.getElem?_eq_getElem hi2
      generalize ns[i] = n at hn
      have hx := ix_nodes hn
      have hix1 : ixD (encN n) (.int 1) = some (encWs n.2) := by simp [encN, encWs]
      have hsl : ∀ o, s[i]? = some o → ixD (encS s) (.int i) = some (encC o) := fun o ho => by
        unfold encS
        rw [ixD_tup, VS.atI_nat, List.getElem?_map, ho]
        rfl
      have key : ∀ (o : Option Way) (b : Bool), s[i]? = some o → notNonD (encC o) .non = some (.bl b) → atI [encWs n.2, D.tup [encC o]] (if b = true then 1 else 0) = some (encWs (edgeAt ns s i)) → bin2 ixD (lstE (consA (bin2 ixD (bin2 ixD (varE 0) (varE 2)) (cE (.int 1))) (consA (tupE (consA (bin2 ixD (varE 1) (varE 2)) nilA)) nilA))) (callE intL (consA (bin2 notNonD (bin2 ixD (varE 1) (varE 2)) (cE .non)) nilA)) (setsE (wipeE [some (encNs ns), some (encS s), none] [2]) [(2, .int i)]) = M.ret (encWs (edgeAt ns s i)) := fun o b ho hb hr => by
        have e2 : bin2 ixD (varE 1) (varE 2) [some (encNs ns), some (encS s), some (.int i)] = M.ret (encC o) := bin2_of (x := encS s) (y := .int i) rfl rfl (hsl o ho)
        have e1 : bin2 ixD (bin2 ixD (varE 0) (varE 2)) (cE (.int 1)) [some (encNs ns), some (encS s), some (.int i)] = M.ret (encWs n.2) := bin2_of (x := encN n) (y := .int 1) (bin2_of (x := encNs ns) (y := .int i) rfl rfl hx) rfl hix1
        refine bin2_of (x := .lst [encWs n.2, .tup [encC o]]) (y := .int (if b = true then 1 else 0)) ?_ (call1_of (x := .bl b) (bin2_of (x := encC o) (y := .non) e2 rfl hb) rfl) hr
        show lstE (consA (bin2 ixD (bin2 ixD (varE 0) (varE 2)) (cE (.int 1))) (consA (tupE (consA (bin2 ixD (varE 1) (varE 2)) nilA)) nilA)) [some (encNs ns), some (encS s), some (.int i)] = _
        rw [lstE_eq, consA_eq, e1, bnd_ret, consA_eq, tupE_eq, consA_eq, e2]
        rfl
      rcases hs.at hn with ⟨_, w, _, hw⟩ | ⟨_, hw⟩
      · refine key (some w) true hw rfl ?_
        rw [if_pos rfl, atI_1]
        unfold edgeAt
        rw [hw]
        rfl
      · refine key none false hw rfl ?_
        rw [if_neg (by decide), atI_0]
        unfold edgeAt
        rw [hw, hn]
        rfl
  show fnD n__law_edges s__law_edges [encNs ns, encS s] = _
  rw [fnD_eq, show startE n__law_edges [encNs ns, encS s] = [some (encNs ns), some (encS s), none] from rfl]
  show M.bnd (retS e_law_edges1 [some (encNs ns), some (encS s), none]) endM = _
  rw [retS_eq, he]
  rfl
/-- what the edges are like -/
structure Net (n : Nat) (es : Es) : Prop where
  len : es.length = n
  few : ∀ ws ∈ es, ws.length ≤ 3
  to : ∀ ws ∈ es, ∀ w ∈ ws, 0 ≤ w.1 ∧ w.1 < n
theorem edgeAt_sub {ns : List Nd} {s : Sg} (hs : Ch ns s) {i : Nat} {n : Nd} (hn : ns[i]? = some n) : ∀ w ∈ edgeAt ns s i, w ∈ n.2 := fun w hw => by
  unfold edgeAt at hw
  rcases hs.at hn with ⟨_, u, hu, e⟩ | ⟨_, e⟩
  · rw [e] at hw
    rw [List.mem_singleton.mp hw]
    exact hu
  · rw [e, hn] at hw
    exact hw
theorem Good.net {ns : List Nd} (h : Good ns) {s : Sg} (hs : Ch ns s) : Net ns.length (edges ns s) := by
  have at_ : ∀ ws ∈ edges ns s, ∃ i n, ns[i]? = some n ∧ ws = edgeAt ns s i := fun ws hws => by
    obtain ⟨i, hi, rfl⟩ := List.mem_map.mp hws
    exact ⟨i, ns[i]'(List.mem_range.mp hi), List.getElem?_eq_getElem _, rfl⟩
  refine ⟨by unfold edges; rw [List.length_map, List.length_range], fun ws hws => ?_, fun ws hws w hw => ?_⟩
  · obtain ⟨i, n, hn, rfl⟩ := at_ ws hws
    unfold edgeAt
    rcases hs.at hn with ⟨_, u, hu, e⟩ | ⟨_, e⟩
    · rw [e]; exact Nat.le_of_ble_eq_true rfl
    · rw [e, hn]; exact h.few n (List.mem_of_getElem? hn)
  · obtain ⟨i, n, hn, rfl⟩ := at_ ws hws
    have := h.way n (List.mem_of_getElem? hn) w (edgeAt_sub hs hn w hw)
    exact ⟨this.1, this.2.1⟩
end K80

/-! K80x: paths, rounds: plain. -/
namespace K80
open VS

def eAt (es : Es) (v : Int) : List Way := es.getD v.toNat []
def Pth (es : Es) : Int → List Way → Int → Prop
  | u, [], v => u = v
  | u, w :: r, v => w ∈ eAt es u ∧ Pth es w.1 r v
def ts (ws : List Way) : List Int := ws.map (·.1)
def sm (ws : List Way) : Int := (ws.map (·.2)).sum
theorem sm_cons (w : Way) (r : List Way) : sm (w :: r) = w.2 + sm r := by unfold sm; rw [List.map_cons, List.sum_cons]
theorem sm_append : ∀ (a b : List Way), sm (a ++ b) = sm a + sm b
  | [], b => by show sm b = 0 + sm b; omega
  | w :: a, b => by
    rw [List.cons_append, sm_cons, sm_cons, sm_append a b]
    omega
theorem Pth.append {es : Es} : ∀ {a : List Way} {u m v : Int} {b : List Way}, Pth es u a m → Pth es m b v → Pth es u (a ++ b) v
  | [], u, m, v, b, h1, h2 => by
    have : u = m := h1
    rw [this]
    exact h2
  | w :: a, u, m, v, b, h1, h2 => ⟨h1.1, Pth.append h1.2 h2⟩
theorem Pth.split {es : Es} : ∀ {a : List Way} {u v : Int} {w : Way} {b : List Way}, Pth es u (a ++ w :: b) v → Pth es u (a ++ [w]) w.1 ∧ Pth es w.1 b v
  | [], u, v, w, b, h => ⟨⟨h.1, rfl⟩, h.2⟩
  | x :: a, u, v, w, b, h => ⟨⟨h.1, (Pth.split h.2).1⟩, (Pth.split h.2).2⟩
theorem Pth.last {es : Es} : ∀ {ws : List Way} {u v : Int}, Pth es u ws v → ws ≠ [] → v ∈ ts ws
  | [], _, _, _, h => absurd rfl h
  | [w], u, v, h, _ => by
    have : w.1 = v := h.2
    simp [ts, this]
  | w :: x :: r, u, v, h, _ => List.mem_cons_of_mem _ (Pth.last h.2 (by simp))
/-- what the search finds from a node -/
inductive Der (es : Es) (s : Int) : Int → List Int → Int → Int → Prop
  | close {v : Int} {met : List Int} {e : Int} {w : Way} : w ∈ eAt es v → w.1 = s → Der es s v met e (e + w.2)
  | step {v : Int} {met : List Int} {e r : Int} {w : Way} : w ∈ eAt es v → s < w.1 → w.1 ∉ met → Der es s w.1 (met ++ [w.1]) (e + w.2) r → Der es s v met e r
theorem der_path {es : Es} {m : Int} : ∀ {ws : List Way} {x : Int} {met : List Int} {e : Int}, Pth es x ws m → ws ≠ [] → (ts ws).Nodup → (∀ t ∈ ts ws, m ≤ t) → (∀ t ∈ ts ws, t ∉ met) → Der es m x met e (e + sm ws)
  | [], _, _, _, _, h, _, _, _ => absurd rfl h
  | [w], x, met, e, h, _, _, _, _ => by
    have h1 : w.1 = m := h.2
    have := Der.close (es := es) (s := m) (met := met) (e := e) h.1 h1
    rw [sm_cons]
    show Der es m x met e (e + (w.2 + 0))
    rw [Int.add_zero]
    exact this
  | w :: y :: r, x, met, e, h, _, nd, hm, hn => by
    have hl := Pth.last h.2 (by simp)
    have nd2 : w.1 ∉ ts (y :: r) ∧ (ts (y :: r)).Nodup := List.nodup_cons.mp nd
    have hw := hm w.1 List.mem_cons_self
    have hne : w.1 ≠ m := fun z => nd2.1 (by rw [z]; exact hl)
    refine Der.step h.1 (by omega) (hn _ List.mem_cons_self) ?_
    rw [sm_cons, ← Int.add_assoc]
    refine der_path h.2 (by simp) nd2.2 (fun t ht => hm t (List.mem_cons_of_mem _ ht)) fun t ht hmem => ?_
    rcases List.mem_append.mp hmem with q | q
    · exact hn t (List.mem_cons_of_mem _ ht) q
    · rw [List.mem_singleton.mp q] at ht
      exact nd2.1 ht
theorem least_mem : ∀ (l : List Int), l ≠ [] → ∃ m ∈ l, ∀ t ∈ l, m ≤ t
  | [], h => absurd rfl h
  | [a], _ => ⟨a, List.mem_cons_self, fun t ht => by rw [List.mem_singleton.mp ht]; exact Int.le_refl a⟩
  | a :: b :: r, _ => by
    obtain ⟨m, hm, hl⟩ := least_mem (b :: r) (by simp)
    by_cases h : a ≤ m
    · refine ⟨a, List.mem_cons_self, fun t ht => ?_⟩
      rcases List.mem_cons.mp ht with rfl | ht
      · exact Int.le_refl _
      · exact Int.le_trans h (hl t ht)
    · refine ⟨m, List.mem_cons_of_mem _ hm, fun t ht => ?_⟩
      rcases List.mem_cons.mp ht with rfl | ht
      · omega
      · exact hl t ht
/-- a round begun at its least node -/
theorem rotate {es : Es} {u : Int} {ws : List Way} (h : Pth es u ws u) (hne : ws ≠ []) (nd : (ts ws).Nodup) :
    ∃ m ws', m ∈ ts ws ∧ Pth es m ws' m ∧ ws' ≠ [] ∧ (ts ws').Nodup ∧ (∀ t ∈ ts ws', m ≤ t) ∧ sm ws' = sm ws := by
  obtain ⟨m, hm, hl⟩ := least_mem (ts ws) (by unfold ts; simpa using hne)
  obtain ⟨w, hw, rfl⟩ := List.mem_map.mp hm
  obtain ⟨a, b, rfl⟩ := List.append_of_mem hw
  obtain ⟨h1, h2⟩ := h.split
  have hp : (ts (b ++ (a ++ [w]))).Perm (ts (a ++ w :: b)) := by
    unfold ts
    refine List.Perm.map _ ?_
    rw [show a ++ w :: b = (a ++ [w]) ++ b by simp]
    exact List.perm_append_comm
  refine ⟨w.1, b ++ (a ++ [w]), hm, h2.append h1, by simp, hp.nodup_iff.mpr nd, fun t ht => hl t (hp.mem_iff.mp ht), ?_⟩
  rw [show a ++ w :: b = (a ++ [w]) ++ b by simp, sm_append, sm_append (a ++ [w]) b]
  omega
/-! ### a path without rounds -/
theorem erase {es : Es} {R : Int → Prop} (hR : ∀ v, R v → ∀ w ∈ eAt es v, R w.1) (hc : ∀ u ws, R u → Pth es u ws u → ws ≠ [] → (ts ws).Nodup → 0 ≤ sm ws) :
    ∀ (ws : List Way) (u v : Int), R u → Pth es u ws v → ∃ ws', Pth es u ws' v ∧ (u :: ts ws').Nodup ∧ sm ws' ≤ sm ws
  | [], u, v, _, h => ⟨[], h, by simp [ts], Int.le_refl _⟩
  | w :: r, u, v, hu, h => by
    obtain ⟨r', h1, nd, hs⟩ := erase hR hc r w.1 v (hR u hu w h.1) h.2
    have hp : Pth es u (w :: r') v := ⟨h.1, h1⟩
    by_cases hm : u ∈ ts (w :: r')
    · obtain ⟨x, hx, rfl⟩ := List.mem_map.mp hm
      obtain ⟨a, b, e⟩ := List.append_of_mem hx
      rw [e] at hp
      obtain ⟨p1, p2⟩ := hp.split
      have nd2 : (ts (a ++ x :: b)).Nodup := by rw [← e]; exact nd
      have nd3 : (ts ((a ++ [x]) ++ b)).Nodup := by rw [show (a ++ [x]) ++ b = a ++ x :: b by simp]; exact nd2
      have c := hc x.1 (a ++ [x]) hu p1 (by simp) (by
        unfold ts at nd3 ⊢
        rw [List.map_append] at nd3
        exact (List.nodup_append.mp nd3).1)
      refine ⟨b, p2, ?_, ?_⟩
      · unfold ts at nd2 ⊢
        rw [List.map_append, List.map_cons] at nd2
        exact (List.nodup_append.mp nd2).2.1
      · have e2 : sm (w :: r') = sm (a ++ [x]) + sm b := by
          rw [e, show a ++ x :: b = (a ++ [x]) ++ b by simp, sm_append]
        rw [sm_cons] at e2 ⊢
        omega
    · exact ⟨w :: r', hp, List.nodup_cons.mpr ⟨hm, nd⟩, by rw [sm_cons, sm_cons]; omega⟩
theorem perm_sum {l k : List Int} (h : l.Perm k) : l.sum = k.sum := by
  induction h with
  | nil => rfl
  | cons x _ ih => rw [List.sum_cons, List.sum_cons, ih]
  | swap x y l => simp only [List.sum_cons]; omega
  | trans _ _ h1 h2 => rw [h1, h2]
theorem sum_sub (g : Int → Int) (h0 : ∀ x, 0 ≤ g x) : ∀ (l B : List Int), l.Nodup → (∀ x ∈ l, x ∈ B) → (l.map g).sum ≤ (B.map g).sum
  | [], B, _, _ => by
    have : ∀ B : List Int, 0 ≤ (B.map g).sum := fun B => by
      induction B with
      | nil => exact Int.le_refl 0
      | cons b r ih =>
        have := h0 b
        simp only [List.map_cons, List.sum_cons]
        omega
    exact this B
  | a :: r, B, nd, hs => by
    have hp := List.perm_cons_erase (hs a List.mem_cons_self)
    have nd2 := List.nodup_cons.mp nd
    have ih := sum_sub g h0 r (B.erase a) nd2.2 fun x hx => by
      rcases List.mem_cons.mp (hp.mem_iff.mp (hs x (List.mem_cons_of_mem _ hx))) with rfl | h
      · exact absurd hx nd2.1
      · exact h
    have e : (B.map g).sum = g a + ((B.erase a).map g).sum := by
      rw [perm_sum (hp.map g), List.map_cons, List.sum_cons]
    rw [e, List.map_cons, List.sum_cons]
    omega
end K80

/-! K80y: saved iff there is an answer: plain. -/
namespace K80
open VS

inductive Rch (es : Es) (k : Int) : Int → Prop
  | base : Rch es k k
  | step {v : Int} {w : Way} : Rch es k v → w ∈ eAt es v → Rch es k w.1
theorem exists_least {ns : List Nd} (hfit : Fit ns) (P : Fs → Prop) (h0 : P (List.replicate ns.length (some 0))) (hs : ∀ f, Up ns f → P f → P (nxt (most ns) ns f)) : ∃ f, Least ns (most ns) f ∧ P f := by
  have key : ∀ k f, mu (most ns) f < k → Up ns f → P f → ∃ f, Least ns (most ns) f ∧ P f := by
    intro k
    induction k with
    | zero => intro f h; exact absurd h (Nat.not_lt_zero _)
    | succ k ih =>
      intro f hk hu hp
      by_cases e : nxt (most ns) ns f = f
      · exact ⟨f, hu.least e, hp⟩
      · have := mu_less hu.up hu.low.top (fun z => e z.symm)
        exact ih _ (by omega) (hu.next hfit) (hs f hu hp)
  exact key _ _ (Nat.lt_succ_self _) (Up.start ns) h0
/-- one owner, who pays -/
def solo (es : Es) : List Nd := es.map fun ws => (1, ws)
theorem solo_get (es : Es) {v : Int} (h0 : 0 ≤ v) (h1 : v < es.length) : (solo es)[v.toNat]? = some (1, eAt es v) := by
  have hl : v.toNat < es.length := by omega
  unfold solo eAt
  rw [List.getElem?_map, List.getElem?_eq_getElem hl, List.getD_eq_getElem?_getD, List.getElem?_eq_getElem hl]
  rfl
def cost (es : Es) (v : Int) : Int := neg1 (1, eAt es v)
theorem solo_most (es : Es) : most (solo es) = (((List.range es.length).map fun (i : Nat) => (i : Int)).map (cost es)).sum := by
  unfold most solo
  rw [List.map_map, List.map_map]
  congr 1
  apply List.ext_getElem?
  intro i
  rw [List.getElem?_map, List.getElem?_map]
  by_cases h : i < es.length
  · rw [List.getElem?_eq_getElem h, List.getElem?_range h]
    show some (neg1 (1, es[i])) = some (neg1 (1, eAt es (i : Int)))
    unfold eAt
    rw [Int.toNat_natCast, List.getD_eq_getElem?_getD, List.getElem?_eq_getElem h]
    rfl
  · rw [List.getElem?_eq_none (by omega), List.getElem?_eq_none (by rw [List.length_range]; omega)]
    rfl
theorem path_cost {es : Es} : ∀ (ws : List Way) (u v : Int), Pth es u ws v → -sm ws ≤ ((u :: ts ws).map (cost es)).sum
  | [], u, v, _ => by
    have : 0 ≤ cost es u := neg1_nonneg _
    show -(0 : Int) ≤ cost es u + 0
    omega
  | w :: r, u, v, h => by
    have ih := path_cost r w.1 v h.2
    have h1 : -w.2 ≤ cost es u := neg1_way (n := (1, eAt es u)) h.1
    rw [sm_cons]
    show _ ≤ ((u :: w.1 :: ts r).map (cost es)).sum
    rw [List.map_cons, List.sum_cons]
    omega
theorem path_in {es : Es} {R : Int → Prop} (hR : ∀ v, R v → ∀ w ∈ eAt es v, R w.1) : ∀ (ws : List Way) (u v : Int), R u → Pth es u ws v → ∀ t ∈ u :: ts ws, R t
  | [], u, v, hu, _, t, ht => by rw [List.mem_singleton.mp ht]; exact hu
  | w :: r, u, v, hu, h, t, ht => by
    rcases List.mem_cons.mp ht with rfl | ht
    · exact hu
    · exact path_in hR r w.1 v (hR u hu w h.1) h.2 t ht
/-- no round that loses: no path loses much -/
theorem path_most {es : Es} {R : Int → Prop} (hn : ∀ v, R v → 0 ≤ v ∧ v < es.length) (hR : ∀ v, R v → ∀ w ∈ eAt es v, R w.1) (hr : ∀ m, R m → ∀ r, Der es m m [] 0 r → 0 ≤ r) {ws : List Way} {u v : Int} (hu : R u) (h : Pth es u ws v) : -sm ws ≤ most (solo es) := by
  obtain ⟨ws', h1, nd, hs⟩ := erase hR (fun u ws hu hp hne nd => by
    obtain ⟨m, ws', hm, hp', hne', nd', hl, he⟩ := rotate hp hne nd
    have hRm : R m := path_in hR ws u u hu hp m (List.mem_cons_of_mem _ hm)
    have := hr m hRm _ (der_path hp' hne' nd' hl (e := 0) (met := []) fun t _ z => nomatch z)
    omega) ws u v hu h
  have h2 := path_cost ws' u v h1
  have h3 := sum_sub (cost es) (fun x => neg1_nonneg _) (u :: ts ws') ((List.range es.length).map fun (i : Nat) => (i : Int)) nd fun t ht => by
    have := hn t (path_in hR ws' u v hu h1 t ht)
    exact List.mem_map.mpr ⟨t.toNat, List.mem_range.mpr (by omega), Int.toNat_of_nonneg this.1⟩
  rw [solo_most]
  omega
theorem solo_fit {es : Es} (hl : es.length ≤ 1000) (hn : Net es.length es) (hne : ∀ ws ∈ es, ws ≠ []) : Fit (solo es) := by
  have mem : ∀ n ∈ solo es, ∃ ws ∈ es, n = (1, ws) := fun n h => by
    obtain ⟨ws, h1, h2⟩ := List.mem_map.mp h
    exact ⟨ws, h1, h2.symm⟩
  have len : (solo es).length = es.length := by unfold solo; rw [List.length_map]
  refine ⟨by rw [len]; exact hl, fun n h => ?_, fun n h => ?_, fun n h w hw => ?_⟩
  · obtain ⟨ws, h1, rfl⟩ := mem n h
    have := hn.few ws h1
    show ws.length ≤ 1000
    omega
  · obtain ⟨ws, h1, rfl⟩ := mem n h
    exact hne ws h1
  · obtain ⟨ws, h1, rfl⟩ := mem n h
    rw [len]
    exact hn.to ws h1 w hw
theorem eAt_mem {es : Es} {v : Int} (h0 : 0 ≤ v) (h1 : v < es.length) : eAt es v ∈ es := by
  have hl : v.toNat < es.length := by omega
  unfold eAt
  rw [List.getD_eq_getElem?_getD, List.getElem?_eq_getElem hl]
  exact List.getElem_mem hl
/-- where no round loses there is an answer, in the game of one owner -/
theorem solo_answer {es : Es} (hl : es.length ≤ 1000) (hn : Net es.length es) (hne : ∀ ws ∈ es, ws ≠ []) {R : Int → Prop} (hin : ∀ v, R v → 0 ≤ v ∧ v < es.length) (hR : ∀ v, R v → ∀ w ∈ eAt es v, R w.1)
    (hr : ∀ m, R m → ∀ r, Der es m m [] 0 r → 0 ≤ r) : ∃ f, Least (solo es) (most (solo es)) f ∧ ∀ v, R v → at_ f v.toNat ≠ none := by
  have len : (solo es).length = es.length := by unfold solo; rw [List.length_map]
  obtain ⟨f, hL, hP⟩ := exists_least (solo_fit hl hn hne) (fun f => ∀ v, R v → ∃ c, at_ f v.toNat = some c ∧ ∃ ws u, Pth es v ws u ∧ c ≤ -sm ws) (by
      intro v hv
      have := hin v hv
      refine ⟨0, ?_, [], v, rfl, by show (0 : Int) ≤ -0; omega⟩
      unfold at_
      rw [List.getD_eq_getElem?_getD, List.getElem?_replicate, if_pos (by rw [len]; omega)]
      rfl) (by
      intro f hu hP v hv
      have hb := hin v hv
      have hg := solo_get es hb.1 hb.2
      have vals : ∀ w ∈ eAt es v, ∃ x, val f w = some x ∧ ∃ ws u, Pth es v ws u ∧ x ≤ -sm ws := fun w hw => by
        obtain ⟨c, hc, ws, u, hp, hle⟩ := hP w.1 (hR v hv w hw)
        refine ⟨max 0 (c - w.2), by rw [val_eq, hc]; rfl, ?_⟩
        by_cases h : 0 ≤ c - w.2
        · refine ⟨w :: ws, u, ⟨hw, hp⟩, ?_⟩
          rw [sm_cons]
          omega
        · exact ⟨[], v, rfl, by show max 0 (c - w.2) ≤ -(0 : Int); omega⟩
      obtain ⟨d, hd, hle⟩ := due1_some (n := (1, eAt es v)) (f := f) (show (1 : Int) ≠ 0 by decide) (hne _ (eAt_mem hb.1 hb.2)) (b := most (solo es)) fun w hw => by
        obtain ⟨x, hx, ws, u, hp, hle⟩ := vals w hw
        exact ⟨x, hx, Int.le_trans hle (path_most hin hR hr hv hp)⟩
      obtain ⟨w, hw, hv2⟩ := ((due1 (n := (1, eAt es v)) (show (1 : Int) ≠ 0 by decide)).mp hd).1
      obtain ⟨x, hx, ws, u, hp, hle2⟩ := vals w hw
      rw [hx] at hv2
      cases hv2
      exact ⟨d, by rw [at_nxt hg]; exact clip_some.mpr ⟨hd, hle⟩, ws, u, hp, hle2⟩)
  refine ⟨f, hL, fun v hv z => ?_⟩
  obtain ⟨c, hc, _⟩ := hP v hv
  rw [hc] at z
  cases z
end K80

/-! K80y2: saved iff there is an answer. -/
namespace K80
open VS

theorem edges_at {ns : List Nd} {s : Sg} {v : Int} (h0 : 0 ≤ v) (h1 : v < ns.length) : eAt (edges ns s) v = edgeAt ns s v.toNat := by
  have hl : v.toNat < ns.length := by omega
  unfold eAt edges
  rw [List.getD_eq_getElem?_getD, List.getElem?_map, List.getElem?_range hl]
  rfl
theorem edgeAt_mine {ns : List Nd} {s : Sg} {i : Nat} {w : Way} (h : s[i]? = some (some w)) : edgeAt ns s i = [w] := by
  unfold edgeAt
  rw [h]
theorem edgeAt_his {ns : List Nd} {s : Sg} {i : Nat} {n : Nd} (hn : ns[i]? = some n) (h : s[i]? = some none) : edgeAt ns s i = n.2 := by
  unfold edgeAt
  rw [h, hn]
  rfl
theorem Good.edges_ne {ns : List Nd} (h : Good ns) {s : Sg} (hs : Ch ns s) : ∀ ws ∈ edges ns s, ws ≠ [] := fun ws hws => by
  obtain ⟨i, hi, rfl⟩ := List.mem_map.mp hws
  have hn : ns[i]? = some (ns[i]'(List.mem_range.mp hi)) := List.getElem?_eq_getElem _
  rcases hs.at hn with ⟨_, w, _, e⟩ | ⟨_, e⟩
  · rw [edgeAt_mine e]; simp
  · rw [edgeAt_his hn e]; exact h.ne _ (List.mem_of_getElem? hn)
theorem foldl_max_le : ∀ (l : List Int) (a b : Int), a ≤ b → (∀ x ∈ l, x ≤ b) → l.foldl max a ≤ b
  | [], a, b, h, _ => h
  | y :: r, a, b, h, hl => foldl_max_le r _ b (by have := hl y List.mem_cons_self; omega) fun x hx => hl x (List.mem_cons_of_mem _ hx)
theorem neg1_sub {o : Int} {ws : List Way} {n : Nd} (h : ∀ w ∈ ws, w ∈ n.2) : neg1 (o, ws) ≤ neg1 n :=
  foldl_max_le _ _ _ (neg1_nonneg n) fun x hx => by
    obtain ⟨w, hw, rfl⟩ := List.mem_map.mp hx
    exact neg1_way (h w hw)
theorem solo_most_le {ns : List Nd} {s : Sg} (hs : Ch ns s) : most (solo (edges ns s)) ≤ most ns := by
  have key : ∀ (l : List Nat), (∀ i ∈ l, i < ns.length) → (l.map fun i => neg1 (1, edgeAt ns s i)).sum ≤ (l.map fun i => neg1 (ns.getD i (0, []))).sum := fun l => by
    induction l with
    | nil => intro _; exact Int.le_refl _
    | cons i r ih =>
      intro h
      have h1 := ih fun x hx => h x (List.mem_cons_of_mem _ hx)
      have hi := h i List.mem_cons_self
      have hn : ns[i]? = some ns[i] := List.getElem?_eq_getElem hi
      have h2 : neg1 (1, edgeAt ns s i) ≤ neg1 (ns.getD i (0, [])) := by
        rw [List.getD_eq_getElem?_getD, hn]
        exact neg1_sub (edgeAt_sub hs hn)
      simp only [List.map_cons, List.sum_cons]
      omega
  have k := key (List.range ns.length) fun i hi => List.mem_range.mp hi
  have e : ((List.range ns.length).map fun i => neg1 (ns.getD i (0, []))) = ns.map neg1 := by
    apply List.ext_getElem?
    intro i
    rw [List.getElem?_map, List.getElem?_map]
    by_cases h : i < ns.length
    · rw [List.getElem?_range h, List.getElem?_eq_getElem h]
      show some (neg1 (ns.getD i (0, []))) = _
      rw [List.getD_eq_getElem?_getD, List.getElem?_eq_getElem h]
      rfl
    · rw [List.getElem?_eq_none (by rw [List.length_range]; omega), List.getElem?_eq_none (by omega)]
      rfl
  rw [e] at k
  unfold most solo edges
  rw [List.map_map, List.map_map]
  exact k
/-- answers of the one owner bound the dues of the game -/
theorem solo_pre {ns : List Nd} (h : Good ns) {s : Sg} (hs : Ch ns s) {f : Fs} (hp : Pre (solo (edges ns s)) (most (solo (edges ns s))) f) : Pre ns (most ns) f := by
  have elen : (edges ns s).length = ns.length := (h.net hs).len
  have slen : (solo (edges ns s)).length = ns.length := by unfold solo; rw [List.length_map, elen]
  refine ⟨hp.len.trans slen, fun i n hn => ?_, hp.pos⟩
  have hi := (List.getElem?_eq_some_iff.mp hn).1
  have hg : (solo (edges ns s))[i]? = some (1, edgeAt ns s i) := by
    have := solo_get (edges ns s) (v := (i : Int)) (by omega) (by rw [elen]; omega)
    rw [edges_at (by omega) (by omega), Int.toNat_natCast] at this
    exact this
  have q := hp.ok i _ hg
  cases hc : at_ f i with
  | none => trivial
  | some c =>
    rw [hc] at q
    obtain ⟨a, ha, hac⟩ := q
    obtain ⟨had, ham⟩ := clip_some.mp ha
    have hall := ((due1 (n := (1, edgeAt ns s i)) (show (1 : Int) ≠ 0 by decide)).mp had).2
    have ml := solo_most_le hs
    have fin : ∀ b, due n f = some b → b ≤ a → le (clip (most ns) (due n f)) (some c) := fun b hb hba => ⟨b, clip_some.mpr ⟨hb, by omega⟩, by omega⟩
    rcases hs.at hn with ⟨h0, w, hw, e⟩ | ⟨h0, e⟩
    · rw [edgeAt_mine e] at hall
      obtain ⟨v, hv, hva⟩ := hall w (List.mem_singleton.mpr rfl)
      obtain ⟨b, hb, hbv⟩ := due0_some h0 hw hv
      exact fin b hb (by omega)
    · rw [edgeAt_his hn e] at hall
      obtain ⟨b, hb, hba⟩ := due1_some h0 (h.ne n (List.mem_of_getElem? hn)) hall
      exact fin b hb hba
theorem rch_in {n : Nat} {es : Es} (hn : Net n es) {k : Int} (h0 : 0 ≤ k) (h1 : k < n) : ∀ v, Rch es k v → 0 ≤ v ∧ v < n := fun v h => by
  induction h with
  | base => exact ⟨h0, h1⟩
  | step _ hw ih =>
    refine hn.to _ (eAt_mem ih.1 (by rw [hn.len]; exact ih.2)) _ hw
theorem saved_to {ns : List Nd} (h : Good ns) {f : Fs} (hL : Least ns (most ns) f) {s : Sg} (hs : Ch ns s) {k : Int} (h0 : 0 ≤ k) (h1 : k < ns.length)
    (hr : ∀ m, Rch (edges ns s) k m → ∀ r, Der (edges ns s) m m [] 0 r → 0 ≤ r) : at_ f k.toNat ≠ none := by
  have hn := h.net hs
  have l6 := h.l6
  have hn' : Net (edges ns s).length (edges ns s) := by rw [hn.len]; exact hn
  obtain ⟨p, hp, ha⟩ := solo_answer (R := Rch (edges ns s) k) (by rw [hn.len]; omega) hn' (h.edges_ne hs) (fun v hv => by rw [hn.len]; exact rch_in hn h0 h1 v hv) (fun v hv w hw => .step hv hw) hr
  have hle := (hL.low p (solo_pre h hs hp.pre)).2 k.toNat
  intro z
  cases hc : at_ p k.toNat with
  | none => exact ha k .base hc
  | some c =>
    rw [hc, z] at hle
    obtain ⟨a, e, _⟩ := hle
    cases e
end K80

/-! K80y3: an answer gives a choice that saves. -/
namespace K80
open VS

theorem choose {ns : List Nd} (f : Fs) : ∀ l : List Nd, (∀ n ∈ l, n.2 ≠ []) → ∃ s, Ch l s ∧ ∀ (i : Nat) (n : Nd), l[i]? = some n → n.1 = 0 → ∃ w ∈ n.2, s[i]? = some (some w) ∧ ∀ d, due n f = some d → val f w = some d
  | [], _ => ⟨[], .nil, fun i n h => by cases h⟩
  | n :: r, hne => by
    obtain ⟨s, hs, hq⟩ := choose (ns := ns) f r fun x hx => hne x (List.mem_cons_of_mem _ hx)
    by_cases h0 : n.1 = 0
    · have : ∃ w ∈ n.2, ∀ d, due n f = some d → val f w = some d := by
        cases hd : due n f with
        | some d =>
          obtain ⟨w, hw, hv⟩ := ((due0 h0).mp hd).1
          exact ⟨w, hw, fun d' e => by cases e; exact hv⟩
        | none =>
          obtain ⟨w, hw⟩ := List.exists_mem_of_ne_nil _ (hne n List.mem_cons_self)
          exact ⟨w, hw, fun d' e => by cases e⟩
      obtain ⟨w, hw, hv⟩ := this
      refine ⟨some w :: s, .mine h0 hw hs, fun i m hm hm0 => ?_⟩
      cases i with
      | zero => cases hm; exact ⟨w, hw, rfl, hv⟩
      | succ i => exact hq i m hm hm0
    · refine ⟨none :: s, .his h0 hs, fun i m hm hm0 => ?_⟩
      cases i with
      | zero => cases hm; exact absurd hm0 h0
      | succ i => exact hq i m hm hm0
theorem saved_from {ns : List Nd} (h : Good ns) {f : Fs} (hL : Least ns (most ns) f) {k : Int} (h0 : 0 ≤ k) (h1 : k < ns.length) (ha : at_ f k.toNat ≠ none) :
    ∃ s, Ch ns s ∧ ∀ m, Rch (edges ns s) k m → ∀ r, Der (edges ns s) m m [] 0 r → 0 ≤ r := by
  obtain ⟨s, hs, hq⟩ := choose (ns := ns) f ns h.ne
  have hn := h.net hs
  refine ⟨s, hs, ?_⟩
  /- along an edge of a node with an answer -/
  have edge : ∀ (v : Int) (c : Int), 0 ≤ v → v < ns.length → at_ f v.toNat = some c → ∀ w ∈ eAt (edges ns s) v, ∃ c', at_ f w.1.toNat = some c' ∧ c' - w.2 ≤ c := by
    intro v c hv0 hv1 hc w hw
    have hi : v.toNat < ns.length := by omega
    have hnv : ns[v.toNat]? = some ns[v.toNat] := List.getElem?_eq_getElem hi
    generalize ns[v.toNat] = n at hnv
    rw [edges_at hv0 hv1] at hw
    obtain ⟨a, hd, hac⟩ := hL.due_le hnv hc
    have : ∃ x, val f w = some x ∧ x ≤ a := by
      rcases hs.at hnv with ⟨o, u, hu, e⟩ | ⟨o, e⟩
      · obtain ⟨u2, _, e2, hv⟩ := hq _ n hnv o
        rw [e] at e2
        cases e2
        rw [edgeAt_mine e] at hw
        rw [List.mem_singleton.mp hw]
        exact ⟨a, hv a hd, Int.le_refl a⟩
      · rw [edgeAt_his hnv e] at hw
        exact ((due1 o).mp hd).2 w hw
    obtain ⟨x, hx, hxa⟩ := this
    rw [val_eq] at hx
    obtain ⟨c', hc', rfl⟩ := Option.map_eq_some_iff.mp hx
    exact ⟨c', hc', by omega⟩
  have fin : ∀ v, Rch (edges ns s) k v → at_ f v.toNat ≠ none := fun v hv => by
    induction hv with
    | base => exact ha
    | step hv hw ih =>
      rename_i v w
      have hb := rch_in hn h0 h1 v hv
      cases hc : at_ f v.toNat with
      | none => exact absurd hc ih
      | some c =>
        obtain ⟨c', hc', _⟩ := edge v c hb.1 hb.2 hc w hw
        rw [hc']
        exact fun z => by cases z
  have pot : ∀ (m c0 : Int), at_ f m.toNat = some c0 → ∀ (v : Int) (met : List Int) (e r : Int), Der (edges ns s) m v met e r → 0 ≤ v → v < ns.length → ∀ c, at_ f v.toNat = some c → c ≤ c0 + e → 0 ≤ r := by
    intro m c0 hm v met e r hd
    induction hd with
    | close hw hwm =>
      rename_i v met e w
      intro hv0 hv1 c hc hle
      obtain ⟨c', hc', hle'⟩ := edge v c hv0 hv1 hc w hw
      rw [hwm, hm] at hc'
      cases hc'
      omega
    | step hw _ _ _ ih =>
      rename_i v met e r w _ _ _
      intro hv0 hv1 c hc hle
      obtain ⟨c', hc', hle'⟩ := edge v c hv0 hv1 hc w hw
      have hb := hn.to _ (eAt_mem hv0 (by rw [hn.len]; exact hv1)) w hw
      exact ih hb.1 hb.2 c' hc' (by omega)
  intro m hm r hd
  have hb := rch_in hn h0 h1 m hm
  cases hc : at_ f m.toNat with
  | none => exact absurd hc (fin m hm)
  | some c => exact pot m c hc m [] 0 r hd hb.1 hb.2 c hc (by omega)
end K80

/-! K80R1: _law_rounds: what is reached. -/
namespace K80
open PySem PySem.Spec L2 RZ VS
open PyProof.Rows hiding St

def encL (l : List Int) : D := .lst (l.map D.int)
theorem ix_edges {n : Nat} {es : Es} (hn : Net n es) {v : Int} (h0 : 0 ≤ v) (h1 : v < n) : ixD (encE es) (.int v) = some (encWs (eAt es v)) := by
  have hl : v.toNat < es.length := by rw [hn.len]; omega
  have e : ((v.toNat : Nat) : Int) = v := Int.toNat_of_nonneg h0
  unfold encE eAt
  rw [ixD_lst, List.getD_eq_getElem?_getD, List.getElem?_eq_getElem hl]
  have q := VS.atI_nat (es.map encWs) v.toNat
  rw [e, List.getElem?_map, List.getElem?_eq_getElem hl] at q
  exact q
structure Rec (n : Nat) (es : Es) (k : Int) (a : Nat) (rs : List Int) : Prop where
  nd : rs.Nodup
  lo : a ≤ rs.length
  mem : k ∈ rs
  inn : ∀ x ∈ rs, 0 ≤ x ∧ x < n
  rch : ∀ x ∈ rs, Rch es k x
  done : ∀ i x, i < a → rs[i]? = some x → ∀ w ∈ eAt es x, w.1 ∈ rs
theorem len_le {n : Nat} {rs : List Int} (nd : rs.Nodup) (h : ∀ x ∈ rs, 0 ≤ x ∧ x < n) : rs.length ≤ n := by
  have := sum_sub (fun _ => 1) (fun _ => by decide) rs ((List.range n).map fun (i : Nat) => (i : Int)) nd fun x hx => by
    have := h x hx
    exact List.mem_map.mpr ⟨x.toNat, List.mem_range.mpr (by omega), Int.toNat_of_nonneg this.1⟩
  have e : ∀ l : List Int, (l.map fun _ => (1 : Int)).sum = l.length := fun l => by
    induction l with
    | nil => rfl
    | cons a r ih => rw [List.map_cons, List.sum_cons, ih, List.length_cons]; omega
  rw [e, e, List.length_map, List.length_range] at this
  omega
def newOf (es : Es) (rs ks : List Int) : List Int := (sortI ks).filter fun t => !decide (t ∈ rs)
/-- what one node adds -/
theorem reach_new {n : Nat} {es : Es} (hn : Net n es) {rs : List Int} {a : Nat} {v : Int} (hv : rs[a]? = some v) (hb : 0 ≤ v ∧ v < n) (x1 x4 x5 x6 x7 x8 x9 x10 x11 x12 : Option D) :
    ∃ new, e_law_rounds2 [some (encE es), x1, some (encL rs), some (.int a), x4, x5, x6, x7, x8, x9, x10, x11, x12] = M.ret (encL new) ∧ new.Nodup ∧ new.length ≤ 3 ∧ ∀ i, i ∈ new ↔ i ∉ rs ∧ ∃ w ∈ eAt es v, w.1 = i := by
  have hew := eAt_mem (es := es) hb.1 (by rw [hn.len]; exact hb.2)
  have h3 := hn.few _ hew
  obtain ⟨ks, xs, hd, nd, hlen, hm, hkl, _⟩ := dictL_ints (fun _ => True) ((eAt es v).map fun w => (w.1, D.bl true)) fun _ _ => trivial
  have hkl3 : ks.length ≤ 3 := by rw [List.length_map] at hkl; omega
  have hr : ixD (encL rs) (.int a) = some (.int v) := by
    unfold encL
    rw [ixD_lst, VS.atI_nat, List.getElem?_map, hv]
    rfl
  have h1 : e_law_rounds1 [some (encE es), x1, some (encL rs), some (.int a), x4, x5, x6, x7, x8, x9, x10, x11, x12] = M.ret (.lst (((eAt es v).map fun w => (w.1, D.bl true)).map fun p => .tup [.int p.1, p.2])) := by
    unfold e_law_rounds1
    rw [lc_runA encW (fun w => .tup [.int w.1, .bl true]) (eAt es v) (by
      rw [seqI_eq, bin2_of (x := encE es) (y := .int v) rfl (bin2_of (x := encL rs) (y := .int a) rfl rfl hr) (ix_edges hn hb.1 hb.2)]
      rfl) (by unfold line; omega) fun w hw => ⟨[(12, encW w)], rfl, by simp [encW]⟩, List.map_map]
    rfl
  refine ⟨(sortI ks).filter fun t => !decide (t ∈ rs), ?_, ((sortI_perm ks).nodup_iff.mpr nd).filter _, Nat.le_trans (List.length_filter_le _ _) (by rw [(sortI_perm ks).length_eq]; exact hkl3), fun i => ?_⟩
  · unfold e_law_rounds2
    rw [lc_run D.int (fun t => !decide (t ∈ rs)) D.int (sortI ks) (by
      rw [seqI_eq, call1_of (call1_of h1 hd) (sortL_keys ks xs (by omega))]
      rfl) (by rw [(sortI_perm ks).length_eq]; unfold line; omega) fun t ht => ⟨[(4, .int t)], rfl, by
        rw [valT_eq, bin2_of (x := .int t) (y := encL rs) rfl rfl (notIn_lst t rs)]
        rfl, fun _ => rfl⟩]
    rfl
  · rw [List.mem_filter, (sortI_perm ks).mem_iff, hm]
    constructor
    · rintro ⟨⟨p, hp, rfl⟩, h⟩
      obtain ⟨w, hw, rfl⟩ := List.mem_map.mp hp
      exact ⟨by simpa using h, w, hw, rfl⟩
    · rintro ⟨h, w, hw, rfl⟩
      exact ⟨⟨_, List.mem_map.mpr ⟨w, hw, rfl⟩, rfl⟩, by simpa using h⟩
theorem reach_turn {n : Nat} (hn6 : n ≤ 6) {es : Es} (hn : Net n es) {k : Int} {a : Nat} {rs : List Int} (h : Rec n es k a rs) (ha : a < rs.length) (x1 x4 x5 x6 x7 x8 x9 x10 x11 x12 : Option D) :
    ∃ rs', b_law_rounds3 [some (encE es), x1, some (encL rs), some (.int a), x4, x5, x6, x7, x8, x9, x10, x11, x12] = M.ret (.nx [some (encE es), x1, some (encL rs'), some (.int (a + 1 : Nat)), x4, x5, x6, x7, x8, x9, x10, x11, x12]) ∧ Rec n es k (a + 1) rs' := by
  have hv : rs[a]? = some rs[a] := List.getElem?_eq_getElem ha
  generalize rs[a] = v at hv
  have hvm := List.mem_of_getElem? hv
  have hb := h.inn v hvm
  obtain ⟨new, he, nd, hl, hm⟩ := reach_new hn hv hb x1 x4 x5 x6 x7 x8 x9 x10 x11 x12
  have hrl := len_le h.nd h.inn
  have hadd : addD (encL rs) (encL new) = some (encL (rs ++ new)) := by
    unfold encL
    show (if _ then _ else _) = _
    rw [if_pos (by rw [List.length_map, List.length_map]; unfold line; omega), List.map_append]
  refine ⟨rs ++ new, ?_, ?_⟩
  · unfold b_law_rounds3
    have hA : asgH [] 2 (bin2 addD (varE 2) e_law_rounds2) [some (encE es), x1, some (encL rs), some (.int a), x4, x5, x6, x7, x8, x9, x10, x11, x12] = M.ret (.nx [some (encE es), x1, some (encL (rs ++ new)), some (.int a), x4, x5, x6, x7, x8, x9, x10, x11, x12]) :=
      asgH_of (bin2_of (x := encL rs) (y := encL new) rfl he hadd)
    rw [seqS_of hA]
    rfl
  · refine ⟨?_, by rw [List.length_append]; omega, List.mem_append_left _ h.mem, fun x hx => ?_, fun x hx => ?_, fun i x hi hx w hw => ?_⟩
    · rw [List.nodup_append]
      exact ⟨h.nd, nd, fun p hp q hq e => ((hm q).mp hq).1 (e ▸ hp)⟩
    · rcases List.mem_append.mp hx with hx | hx
      · exact h.inn x hx
      · obtain ⟨_, w, hw, rfl⟩ := (hm x).mp hx
        exact hn.to _ (eAt_mem hb.1 (by rw [hn.len]; exact hb.2)) w hw
    · rcases List.mem_append.mp hx with hx | hx
      · exact h.rch x hx
      · obtain ⟨_, w, hw, rfl⟩ := (hm x).mp hx
        exact .step (h.rch v hvm) hw
    · have hil : i < rs.length := by omega
      rw [List.getElem?_append_left hil] at hx
      rcases Nat.lt_succ_iff_lt_or_eq.mp hi with hi | rfl
      · exact List.mem_append_left _ (h.done i x hi hx w hw)
      · rw [hv] at hx
        cases hx
        by_cases q : w.1 ∈ rs
        · exact List.mem_append_left _ q
        · exact List.mem_append_right _ ((hm w.1).mpr ⟨q, w, hw, rfl⟩)
theorem reach_loop {n : Nat} (hn6 : n ≤ 6) {es : Es} (hn : Net n es) {k : Int} (h0 : 0 ≤ k) (h1 : k < n) (x1 x4 x5 x6 x7 x8 x9 x10 x11 x12 : Option D) (g : Bag) :
    ∃ rs y3, whileS (valT (bin2 ltD (varE 3) (callE lenL (consA (varE 2) nilA)))) b_law_rounds3 [some (encE es), x1, some (encL [k]), some (.int 0), x4, x5, x6, x7, x8, x9, x10, x11, x12] g =
      .ok (.nx [some (encE es), x1, some (encL rs), y3, x4, x5, x6, x7, x8, x9, x10, x11, x12]) g ∧ rs.length ≤ n ∧ ∀ x, x ∈ rs ↔ Rch es k x := by
  obtain ⟨env', g', h2, rs, a, rfl, rfl, hR, hge⟩ := while_run (τ := valT (bin2 ltD (varE 3) (callE lenL (consA (varE 2) nilA)))) (ρ := b_law_rounds3)
    (fun m env g' => ∃ rs, ∃ a : Nat, env = [some (encE es), x1, some (encL rs), some (.int a), x4, x5, x6, x7, x8, x9, x10, x11, x12] ∧ g' = g ∧ Rec n es k a rs ∧ m = n - a)
    (fun env g' => ∃ rs, ∃ a : Nat, env = [some (encE es), x1, some (encL rs), some (.int a), x4, x5, x6, x7, x8, x9, x10, x11, x12] ∧ g' = g ∧ Rec n es k a rs ∧ rs.length ≤ a) (by
      rintro m env g1 ⟨rs, a, rfl, rfl, hR, rfl⟩
      have hlen : lenL [encL rs] = some (.int rs.length) := by unfold encL; rw [lenL_lst, List.length_map]
      refine ⟨decide ((a : Int) < rs.length), g1, ?_, fun ht => ?_, fun hf => ⟨rs, a, rfl, rfl, hR, ?_⟩⟩
      · rw [valT_eq, bin2_of (x := .int a) (y := .int rs.length) rfl (call1_of (x := encL rs) rfl hlen) (ltD_ii _ _)]
        rfl
      · have ha : a < rs.length := by
          have := of_decide_eq_true ht
          omega
        obtain ⟨rs', hb, hR'⟩ := reach_turn hn6 hn hR ha x1 x4 x5 x6 x7 x8 x9 x10 x11 x12
        have := len_le hR.nd hR.inn
        exact ⟨_, g1, n - (a + 1), .inl (by rw [hb]; rfl), by omega, rs', a + 1, rfl, rfl, hR', rfl⟩
      · have := of_decide_eq_false hf
        omega) n [some (encE es), x1, some (encL [k]), some (.int 0), x4, x5, x6, x7, x8, x9, x10, x11, x12] g
    ⟨[k], 0, rfl, rfl, ⟨by simp, Nat.zero_le _, by simp, fun x hx => by rw [List.mem_singleton.mp hx]; exact ⟨h0, h1⟩, fun x hx => by rw [List.mem_singleton.mp hx]; exact .base, fun i x hi => absurd hi (Nat.not_lt_zero i)⟩, by omega⟩
  refine ⟨rs, _, h2, len_le hR.nd hR.inn, fun x => ⟨hR.rch x, fun hx => ?_⟩⟩
  induction hx with
  | base => exact hR.mem
  | step _ hw ih =>
    obtain ⟨i, hi⟩ := List.mem_iff_getElem?.mp ih
    have := (List.getElem?_eq_some_iff.mp hi).1
    exact hR.done i _ (by omega) hi _ hw
end K80

/-! K80R2: _law_rounds: the search: plain. -/
namespace K80
open VS

abbrev Row := Int × List Int × Int
inductive DerL (es : Es) (s : Int) : Int → List Int → Int → Int × Int → Prop
  | close {v : Int} {met : List Int} {e : Int} {w : Way} : w ∈ eAt es v → w.1 = s → DerL es s v met e (e + w.2, (met.length : Int) + 1)
  | step {v : Int} {met : List Int} {e : Int} {p : Int × Int} {w : Way} : w ∈ eAt es v → s < w.1 → w.1 ∉ met → DerL es s w.1 (met ++ [w.1]) (e + w.2) p → DerL es s v met e p
theorem DerL.der {es : Es} {s v e : Int} {met : List Int} {p : Int × Int} (h : DerL es s v met e p) : Der es s v met e p.1 := by
  induction h with
  | close hw hs => exact .close hw hs
  | step hw hs hm _ ih => exact .step hw hs hm ih
theorem Der.derL {es : Es} {s v e r : Int} {met : List Int} (h : Der es s v met e r) : ∃ l, DerL es s v met e (r, l) := by
  induction h with
  | close hw hs => exact ⟨_, .close hw hs⟩
  | step hw hs hm _ ih => exact ih.elim fun l h => ⟨l, .step hw hs hm h⟩
/-- one way adds -/
def addW (s : Int) (met : List Int) (e : Int) (p : List (Int × Int) × List Row) (w : Way) : List (Int × Int) × List Row :=
  if w.1 = s then (p.1 ++ [(e + w.2, (met.length : Int) + 1)], p.2) else if s < w.1 ∧ w.1 ∉ met then (p.1, p.2 ++ [(w.1, met ++ [w.1], e + w.2)]) else p
def addWs (s : Int) (met : List Int) (e : Int) (ws : List Way) (p : List (Int × Int) × List Row) : List (Int × Int) × List Row := ws.foldl (addW s met e) p
def Wt (n : Nat) (r : Row) : Nat := 4 ^ (n - r.2.1.length)
def Ws (n : Nat) (rs : List Row) : Nat := (rs.map (Wt n)).sum
structure RowOk (n : Nat) (r : Row) : Prop where
  inn : 0 ≤ r.1 ∧ r.1 < n
  nd : r.2.1.Nodup
  met : ∀ x ∈ r.2.1, 0 ≤ x ∧ x < n
theorem Ws_append (n : Nat) (a b : List Row) : Ws n (a ++ b) = Ws n a + Ws n b := by unfold Ws; rw [List.map_append, List.sum_append]
theorem Wt_pos (n : Nat) (r : Row) : 1 ≤ Wt n r := Nat.pow_pos (by decide)
theorem Ws_len (n : Nat) : ∀ rs : List Row, rs.length ≤ Ws n rs
  | [] => Nat.le_refl _
  | r :: rs => by
    have := Ws_len n rs
    have := Wt_pos n r
    show rs.length + 1 ≤ Wt n r + Ws n rs
    omega
structure AddOk (n : Nat) (es : Es) (s : Int) (row : Row) (ws : List Way) (p q : List (Int × Int) × List Row) : Prop where
  ok : ∀ r ∈ q.2, RowOk n r
  len : q.1.length ≤ p.1.length + ws.length
  wt : 4 * Ws n q.2 ≤ 4 * Ws n p.2 + ws.length * Wt n row
  iff : ∀ x, (x ∈ q.1 ∨ ∃ r ∈ q.2, DerL es s r.1 r.2.1 r.2.2 x) ↔ (x ∈ p.1 ∨ ∃ r ∈ p.2, DerL es s r.1 r.2.1 r.2.2 x) ∨ ∃ w ∈ ws, (w.1 = s ∧ x = (row.2.2 + w.2, (row.2.1.length : Int) + 1)) ∨ (s < w.1 ∧ w.1 ∉ row.2.1 ∧ DerL es s w.1 (row.2.1 ++ [w.1]) (row.2.2 + w.2) x)
theorem addW_ok {n : Nat} {es : Es} {s : Int} {row : Row} (hr : RowOk n row) {w : Way} (hw : 0 ≤ w.1 ∧ w.1 < n) {p : List (Int × Int) × List Row} (hp : ∀ r ∈ p.2, RowOk n r) : AddOk n es s row [w] p (addW s row.2.1 row.2.2 p w) := by
  unfold addW
  by_cases h1 : w.1 = s
  · rw [if_pos h1]
    refine ⟨hp, by simp, by show _ ≤ _; simp, fun x => ?_⟩
    have hns : ¬ s < w.1 := by omega
    simp only [List.mem_append, List.mem_singleton, exists_eq_left, h1, true_and, Int.lt_irrefl, false_and, or_false]
    constructor
    · rintro ((h | h) | h)
      · exact .inl (.inl h)
      · exact .inr h
      · exact .inl (.inr h)
    · rintro ((h | h) | h)
      · exact .inl (.inl h)
      · exact .inr h
      · exact .inl (.inr h)
  · rw [if_neg h1]
    by_cases h2 : s < w.1 ∧ w.1 ∉ row.2.1
    · rw [if_pos h2]
      have nd : (row.2.1 ++ [w.1]).Nodup := by
        rw [List.nodup_append]
        exact ⟨hr.nd, by simp, fun a ha b hb e => h2.2 (by rw [← List.mem_singleton.mp hb, ← e]; exact ha)⟩
      have hmet : ∀ x ∈ row.2.1 ++ [w.1], 0 ≤ x ∧ x < n := fun x hx => by
        rcases List.mem_append.mp hx with hx | hx
        · exact hr.met x hx
        · rw [List.mem_singleton.mp hx]; exact hw
      have hl := len_le nd hmet
      rw [List.length_append, List.length_singleton] at hl
      refine ⟨fun r hrm => ?_, by simp, ?_, fun x => ?_⟩
      · rcases List.mem_append.mp hrm with h | h
        · exact hp r h
        · rw [List.mem_singleton.mp h]
          exact ⟨hw, nd, hmet⟩
      · rw [Ws_append]
        have e : Ws n [(w.1, row.2.1 ++ [w.1], row.2.2 + w.2)] = 4 ^ (n - (row.2.1.length + 1)) := by
          show 4 ^ (n - (row.2.1 ++ [w.1]).length) + 0 = _
          rw [List.length_append, List.length_singleton, Nat.add_zero]
        have e2 : Wt n row = 4 * 4 ^ (n - (row.2.1.length + 1)) := by
          unfold Wt
          rw [show n - row.2.1.length = n - (row.2.1.length + 1) + 1 by omega, Nat.pow_succ, Nat.mul_comm]
        rw [e, e2]
        simp only [List.length_singleton]
        omega
      · simp only [List.mem_append, List.mem_singleton, exists_eq_left, h1, h2.1, true_and, false_and, false_or]
        constructor
        · rintro (h | ⟨r, h | rfl, hd⟩)
          · exact .inl (.inl h)
          · exact .inl (.inr ⟨r, h, hd⟩)
          · exact .inr ⟨h2.2, hd⟩
        · rintro ((h | ⟨r, h, hd⟩) | ⟨_, hd⟩)
          · exact .inl h
          · exact .inr ⟨r, .inl h, hd⟩
          · exact .inr ⟨_, .inr rfl, hd⟩
    · rw [if_neg h2]
      refine ⟨hp, by simp, by omega, fun x => ?_⟩
      constructor
      · exact .inl
      · rintro (h | ⟨u, hu, h⟩)
        · exact h
        · rw [List.mem_singleton.mp hu] at h
          rcases h with ⟨h, _⟩ | ⟨h, h', _⟩
          · exact absurd h h1
          · exact absurd ⟨h, h'⟩ h2
theorem addWs_ok {n : Nat} {es : Es} {s : Int} {row : Row} (hr : RowOk n row) : ∀ (ws : List Way) (hw : ∀ w ∈ ws, 0 ≤ w.1 ∧ w.1 < n) {p : List (Int × Int) × List Row} (hp : ∀ r ∈ p.2, RowOk n r), AddOk n es s row ws p (addWs s row.2.1 row.2.2 ws p)
  | [], _, p, hp => ⟨hp, by simp [addWs], by simp [addWs], fun x => by simp [addWs]⟩
  | w :: ws, hw, p, hp => by
    have h1 := addW_ok (es := es) (s := s) hr (hw w List.mem_cons_self) hp
    have h2 := addWs_ok hr ws (fun u hu => hw u (List.mem_cons_of_mem _ hu)) (p := addW s row.2.1 row.2.2 p w) h1.ok (es := es) (s := s)
    have e : addWs s row.2.1 row.2.2 (w :: ws) p = addWs s row.2.1 row.2.2 ws (addW s row.2.1 row.2.2 p w) := rfl
    rw [e]
    have l1 := h1.len
    have l2 := h2.len
    have w1 := h1.wt
    have w2 := h2.wt
    refine ⟨h2.ok, ?_, ?_, fun x => ?_⟩
    · rw [List.length_cons]
      rw [List.length_singleton] at l1
      omega
    · rw [List.length_cons, Nat.add_mul]
      rw [List.length_singleton] at w1
      omega
    · rw [h2.iff, h1.iff]
      constructor
      · rintro ((h | ⟨u, hu, h⟩) | ⟨u, hu, h⟩)
        · exact .inl h
        · exact .inr ⟨u, List.mem_cons.mpr (.inl (List.mem_singleton.mp hu)), h⟩
        · exact .inr ⟨u, List.mem_cons_of_mem _ hu, h⟩
      · rintro (h | ⟨u, hu, h⟩)
        · exact .inl (.inl h)
        · rcases List.mem_cons.mp hu with rfl | hu
          · exact .inl (.inr ⟨u, List.mem_singleton.mpr rfl, h⟩)
          · exact .inr ⟨u, hu, h⟩
theorem derL_iff {es : Es} {s v e : Int} {met : List Int} {x : Int × Int} : DerL es s v met e x ↔ ∃ w ∈ eAt es v, (w.1 = s ∧ x = (e + w.2, (met.length : Int) + 1)) ∨ (s < w.1 ∧ w.1 ∉ met ∧ DerL es s w.1 (met ++ [w.1]) (e + w.2) x) := by
  constructor
  · intro h
    cases h with
    | close hw hs => exact ⟨_, hw, .inl ⟨hs, rfl⟩⟩
    | step hw h1 h2 h3 => exact ⟨_, hw, .inr ⟨h1, h2, h3⟩⟩
  · rintro ⟨w, hw, ⟨h1, rfl⟩ | ⟨h1, h2, h3⟩⟩
    · exact .close hw h1
    · exact .step hw h1 h2 h3
/-- the state of the search from s -/
structure Sea (n : Nat) (es : Es) (s : Int) (F0 F : List (Int × Int)) (rows : List Row) : Prop where
  ok : ∀ r ∈ rows, RowOk n r
  len : F.length + 3 * Ws n rows ≤ F0.length + 3 * 4 ^ n
  iff : ∀ x, (x ∈ F ∨ ∃ r ∈ rows, DerL es s r.1 r.2.1 r.2.2 x) ↔ x ∈ F0 ∨ DerL es s s [] 0 x
theorem Sea.start {n : Nat} {es : Es} {s : Int} (hs : 0 ≤ s ∧ s < n) (F0 : List (Int × Int)) : Sea n es s F0 F0 [(s, [], 0)] :=
  ⟨fun r hr => by rw [List.mem_singleton.mp hr]; exact ⟨hs, List.nodup_nil, fun x hx => nomatch hx⟩, by
    show _ + 3 * (4 ^ (n - 0) + 0) ≤ _
    rw [Nat.sub_zero, Nat.add_zero]
    exact Nat.le_refl _, fun x => by simp⟩
theorem Sea.next {n : Nat} {es : Es} (hn : Net n es) {s : Int} {F0 F : List (Int × Int)} {rows : List Row} {row : Row} (h : Sea n es s F0 F (rows ++ [row])) :
    Sea n es s F0 (addWs s row.2.1 row.2.2 (eAt es row.1) (F, rows)).1 (addWs s row.2.1 row.2.2 (eAt es row.1) (F, rows)).2 ∧ Ws n (addWs s row.2.1 row.2.2 (eAt es row.1) (F, rows)).2 < Ws n (rows ++ [row]) := by
  have hr := h.ok row (List.mem_append_right _ (List.mem_singleton.mpr rfl))
  have hm := eAt_mem (es := es) hr.inn.1 (by rw [hn.len]; exact hr.inn.2)
  have a := addWs_ok (es := es) (s := s) hr (eAt es row.1) (hn.to _ hm) (p := (F, rows)) fun r hx => h.ok r (List.mem_append_left _ hx)
  have h3 := hn.few _ hm
  have hw := a.wt
  have hl := a.len
  have hL := h.len
  have e1 : Ws n [row] = Wt n row := by show Wt n row + 0 = _; omega
  have hp := Wt_pos n row
  rw [Ws_append, e1] at hL ⊢
  have hw3 : (eAt es row.1).length * Wt n row ≤ 3 * Wt n row := Nat.mul_le_mul_right _ h3
  simp only at hw hl
  refine ⟨⟨a.ok, by omega, fun x => ?_⟩, by omega⟩
  rw [a.iff, ← h.iff]
  constructor
  · rintro ((h1 | ⟨r, h1, h2⟩) | h1)
    · exact .inl h1
    · exact .inr ⟨r, List.mem_append_left _ h1, h2⟩
    · exact .inr ⟨row, List.mem_append_right _ (List.mem_singleton.mpr rfl), derL_iff.mpr h1⟩
  · rintro (h1 | ⟨r, h1, h2⟩)
    · exact .inl (.inl h1)
    · rcases List.mem_append.mp h1 with h1 | h1
      · exact .inl (.inr ⟨r, h1, h2⟩)
      · rw [List.mem_singleton.mp h1] at h2
        exact .inr (derL_iff.mp h2)
end K80

/-! K80R3: _law_rounds: the search: the walk. -/
namespace K80
open PySem PySem.Spec L2 RZ VS
open PyProof.Rows hiding St

def encRw (r : Row) : D := .tup [.int r.1, .tup (r.2.1.map D.int), .int r.2.2]
def encF (p : Int × Int) : D := .tup [.int p.1, .int p.2]
theorem way_turn {s e : Int} {met : List Int} (w : Way) {p : List (Int × Int) × List Row} (hF : p.1.length < line) (hR : p.2.length < line) (hm : met.length + 1 ≤ 1000) (x0 x1 x2 x3 x8 x12 : Option D) :
    b_law_rounds4 [x0, x1, x2, x3, some (.int w.1), some (.lst (p.1.map encF)), some (.int s), some (.lst (p.2.map encRw)), x8, some (.tup (met.map D.int)), some (.int e), some (.int w.2), x12] =
      M.ret (.nx [x0, x1, x2, x3, some (.int w.1), some (.lst ((addW s met e p w).1.map encF)), some (.int s), some (.lst ((addW s met e p w).2.map encRw)), x8, some (.tup (met.map D.int)), some (.int e), some (.int w.2), x12]) := by
  have hml : met.length + 1 ≤ line := Nat.le_trans hm (by unfold line; decide)
  unfold b_law_rounds4 addW
  rw [ifS_of (c := decide (w.1 = s)) (valT_of (bin2_of (x := .int w.1) (y := .int s) rfl rfl (eqVD_ii _ _)))]
  by_cases h1 : w.1 = s
  · rw [if_pos (by simpa using h1), if_pos h1]
    rw [appH_of (xs := p.1.map encF) (d := encF (e + w.2, (met.length : Int) + 1)) rfl (tup2_of (bin2_of (x := .int e) (y := .int w.2) rfl rfl rfl) (bin2_of (x := .int met.length) (y := .int 1) (call1_of (x := .tup (met.map D.int)) rfl (by rw [lenL_tup, List.length_map])) rfl rfl)) (by rw [List.length_map]; exact hF)]
    rw [List.map_append]
    rfl
  · rw [if_neg (by simpa using h1), if_neg h1]
    have ht : andT (valT (bin2 gtD (varE 4) (varE 6))) (valT (bin2 notInSD (varE 4) (varE 9))) [x0, x1, x2, x3, some (.int w.1), some (.lst (p.1.map encF)), some (.int s), some (.lst (p.2.map encRw)), x8, some (.tup (met.map D.int)), some (.int e), some (.int w.2), x12] = M.ret (decide (s < w.1 ∧ w.1 ∉ met)) := by
      rw [andT_eq, valT_of (bin2_of (x := .int w.1) (y := .int s) rfl rfl (gtD_ii _ _)), bnd_ret, valT_of (bin2_of (x := .int w.1) (y := .tup (met.map D.int)) rfl rfl (notIn_tup _ _))]
      by_cases h2 : s < w.1 <;> by_cases h3 : w.1 ∈ met <;> simp [h2, h3]
    rw [ifS_of ht]
    by_cases h2 : s < w.1 ∧ w.1 ∉ met
    · rw [if_pos (by simpa using h2), if_pos h2]
      rw [appH_of (xs := p.2.map encRw) (d := encRw (w.1, met ++ [w.1], e + w.2)) rfl (tup3_of (x := .int w.1) rfl (bin2_of (x := .tup (met.map D.int)) (y := .tup [.int w.1]) rfl rfl (by
          show (if _ then _ else _) = some (D.tup ((met ++ [w.1]).map D.int))
          rw [if_pos (by rw [List.length_map]; exact hml), List.map_append]
          rfl)) (bin2_of (x := .int e) (y := .int w.2) rfl rfl rfl)) (by rw [List.length_map]; exact hR)]
      rw [List.map_append]
      rfl
    · rw [if_neg (by simpa using h2), if_neg h2]
      rfl
theorem addW_len (s : Int) (met : List Int) (e : Int) (w : Way) (p : List (Int × Int) × List Row) : (addW s met e p w).1.length ≤ p.1.length + 1 ∧ (addW s met e p w).2.length ≤ p.2.length + 1 := by
  unfold addW
  split
  · simp
  · split <;> simp
theorem ways_turn {s e : Int} {met : List Int} (hm : met.length + 1 ≤ 1000) (x0 x1 x2 x3 x8 x12 : Option D) : ∀ (ws : List Way) {p : List (Int × Int) × List Row} (hF : p.1.length + ws.length < line) (hR : p.2.length + ws.length < line) (x4 x11 : Option D),
    ∃ y4 y11, forGo [5, 7] (tupB 2 (consB (nameB 4) (consB (nameB 11) nilB))) b_law_rounds4 (ws.map encW) [x0, x1, x2, x3, x4, some (.lst (p.1.map encF)), some (.int s), some (.lst (p.2.map encRw)), x8, some (.tup (met.map D.int)), some (.int e), x11, x12] =
      M.ret (.nx [x0, x1, x2, x3, y4, some (.lst ((addWs s met e ws p).1.map encF)), some (.int s), some (.lst ((addWs s met e ws p).2.map encRw)), x8, some (.tup (met.map D.int)), some (.int e), y11, x12])
  | [], p, _, _, x4, x11 => ⟨x4, x11, rfl⟩
  | w :: ws, p, hF, hR, x4, x11 => by
    rw [List.length_cons] at hF hR
    have hl := addW_len s met e w p
    obtain ⟨y4, y11, ih⟩ := ways_turn hm x0 x1 x2 x3 x8 x12 ws (p := addW s met e p w) (by omega) (by omega) (some (.int w.1)) (some (.int w.2))
    refine ⟨y4, y11, ?_⟩
    rw [List.map_cons]
    rw [show forGo [5, 7] (tupB 2 (consB (nameB 4) (consB (nameB 11) nilB))) b_law_rounds4 (encW w :: ws.map encW) = fun env => M.bnd (M.ofO (tupB 2 (consB (nameB 4) (consB (nameB 11) nilB)) (encW w))) fun l => if outO [5, 7] l = true then M.bnd (b_law_rounds4 (setsE env l)) (goS (forGo [5, 7] (tupB 2 (consB (nameB 4) (consB (nameB 11) nilB))) b_law_rounds4 (ws.map encW))) else M.bad from rfl]
    show (M.bnd (M.ofO _) _ : M Fl) = _
    rw [show tupB 2 (consB (nameB 4) (consB (nameB 11) nilB)) (encW w) = some [(4, .int w.1), (11, .int w.2)] by simp [encW], ofO_someM, bnd_ret, if_pos (by simp)]
    rw [show setsE [x0, x1, x2, x3, x4, some (.lst (p.1.map encF)), some (.int s), some (.lst (p.2.map encRw)), x8, some (.tup (met.map D.int)), some (.int e), x11, x12] [(4, .int w.1), (11, .int w.2)] = [x0, x1, x2, x3, some (.int w.1), some (.lst (p.1.map encF)), some (.int s), some (.lst (p.2.map encRw)), x8, some (.tup (met.map D.int)), some (.int e), some (.int w.2), x12] from rfl]
    rw [way_turn w (by omega) (by omega) hm, bnd_ret]
    exact ih
/-- one row is taken -/
theorem row_turn {n : Nat} (hn6 : n ≤ 6) {es : Es} (hn : Net n es) {s : Int} {F : List (Int × Int)} {rows : List Row} {row : Row} (hr : RowOk n row) (hF : F.length + 3 < line) (hR : rows.length + 3 < line) (x1 x2 x3 x4 x8 x9 x10 x11 x12 : Option D) :
    ∃ y4 y8 y9 y10 y11, b_law_rounds5 [some (encE es), x1, x2, x3, x4, some (.lst (F.map encF)), some (.int s), some (.lst ((rows ++ [row]).map encRw)), x8, x9, x10, x11, x12] =
      M.ret (.nx [some (encE es), x1, x2, x3, y4, some (.lst ((addWs s row.2.1 row.2.2 (eAt es row.1) (F, rows)).1.map encF)), some (.int s), some (.lst ((addWs s row.2.1 row.2.2 (eAt es row.1) (F, rows)).2.map encRw)), y8, y9, y10, y11, x12]) := by
  have hml := len_le hr.nd hr.met
  have h3 := hn.few _ (eAt_mem (es := es) hr.inn.1 (by rw [hn.len]; exact hr.inn.2))
  obtain ⟨y4, y11, hw⟩ := ways_turn (s := s) (e := row.2.2) (met := row.2.1) (by omega) (some (encE es)) x1 x2 x3 (some (.int row.1)) x12 (eAt es row.1) (p := (F, rows)) (by simp only; omega) (by simp only; omega) x4 x11
  refine ⟨y4, some (.int row.1), some (.tup (row.2.1.map D.int)), some (.int row.2.2), y11, ?_⟩
  have hlast : ixD (.lst ((rows ++ [row]).map encRw)) (.int (-1)) = some (encRw row) := by
    rw [ixD_lst, atI_last]
    simp
  have hA : unpF [5, 7] (tupB 3 (consB (nameB 8) (consB (nameB 9) (consB (nameB 10) nilB)))) (bin2 ixD (varE 7) (un1 negD (cE (.int 1)))) [some (encE es), x1, x2, x3, x4, some (.lst (F.map encF)), some (.int s), some (.lst ((rows ++ [row]).map encRw)), x8, x9, x10, x11, x12] =
      M.ret (.nx [some (encE es), x1, x2, x3, x4, some (.lst (F.map encF)), some (.int s), some (.lst ((rows ++ [row]).map encRw)), some (.int row.1), some (.tup (row.2.1.map D.int)), some (.int row.2.2), x11, x12]) := by
    rw [unpF_eq, bin2_of (x := .lst ((rows ++ [row]).map encRw)) (y := .int (-1)) rfl rfl hlast, bnd_ret]
    rw [show tupB 3 (consB (nameB 8) (consB (nameB 9) (consB (nameB 10) nilB))) (encRw row) = some [(8, .int row.1), (9, .tup (row.2.1.map D.int)), (10, .int row.2.2)] by simp [encRw], ofO_someM, bnd_ret, if_pos]
    · rfl
    · refine ⟨?_, by simp⟩
      have : ∀ l : List Int, flats (l.map D.int) = true := fun l => by
        induction l with
        | nil => rfl
        | cons a r ih => simpa [flats, flat] using ih
      simp [flat, this]
  have hB : asgN 7 (slNE (varE 7) noP (someP (un1 negD (cE (.int 1))))) [some (encE es), x1, x2, x3, x4, some (.lst (F.map encF)), some (.int s), some (.lst ((rows ++ [row]).map encRw)), some (.int row.1), some (.tup (row.2.1.map D.int)), some (.int row.2.2), x11, x12] =
      M.ret (.nx [some (encE es), x1, x2, x3, x4, some (.lst (F.map encF)), some (.int s), some (.lst (rows.map encRw)), some (.int row.1), some (.tup (row.2.1.map D.int)), some (.int row.2.2), x11, x12]) := by
    have hc : slL (.lst ((rows ++ [row]).map encRw)) none (some (-1)) = some (.lst (rows.map encRw)) := by
      show some (D.lst (VS.cutD _ _ _)) = _
      unfold VS.cutD HT.sIx
      simp
      rw [show (-1 + ((rows.length : Int) + 1)).toNat = (rows.map encRw).length by rw [List.length_map]; omega]
      exact List.take_left
    have hs : slNE (varE 7) noP (someP (un1 negD (cE (.int 1)))) [some (encE es), x1, x2, x3, x4, some (.lst (F.map encF)), some (.int s), some (.lst ((rows ++ [row]).map encRw)), some (.int row.1), some (.tup (row.2.1.map D.int)), some (.int row.2.2), x11, x12] = M.ret (.lst (rows.map encRw)) := by
      show M.ofO (slL (.lst ((rows ++ [row]).map encRw)) none (some (-1))) = _
      rw [hc, ofO_someM]
    rw [asgN_eq, hs, bnd_ret, if_pos]
    · rfl
    · show flats (rows.map encRw) = true
      have h1 : ∀ l : List Int, flats (l.map D.int) = true := fun l => by
        induction l with
        | nil => rfl
        | cons a r ih => simpa [flats, flat] using ih
      clear hw hlast hA hc hs hR
      induction rows with
      | nil => rfl
      | cons a r ih => simpa [flats, flat, encRw, h1] using ih
  unfold b_law_rounds5
  rw [seqS_of hA, seqS_of hB, forH_eq]
  rw [show seqI (bin2 ixD (varE 0) (varE 8)) (hide [5, 7] [some (encE es), x1, x2, x3, x4, some (.lst (F.map encF)), some (.int s), some (.lst (rows.map encRw)), some (.int row.1), some (.tup (row.2.1.map D.int)), some (.int row.2.2), x11, x12]) = M.ret ((eAt es row.1).map encW) by
    rw [seqI_eq, bin2_of (x := encE es) (y := .int row.1) rfl rfl (ix_edges hn hr.inn.1 hr.inn.2)]
    rfl, bnd_ret]
  exact hw
theorem plainAll_rows : ∀ rows : List Row, PyData.plainAll (toPys (rows.map encRw)) = true
  | [] => rfl
  | r :: rs => by
    have h1 := plainAll_ints r.2.1
    simpa [toPys, PyData.plainAll, toPy, PyData.plain, encRw, h1] using plainAll_rows rs
theorem search {n : Nat} (hn6 : n ≤ 6) {es : Es} (hn : Net n es) {s : Int} (hs : 0 ≤ s ∧ s < n) (F0 : List (Int × Int)) (hF0 : F0.length + 3 * 4 ^ n + 3 < line) (x1 x2 x3 x4 x7 x8 x9 x10 x11 x12 : Option D) (g : Bag) :
    ∃ (F : List (Int × Int)) (y4 y7 y8 y9 y10 y11 : Option D), b_law_rounds6 [some (encE es), x1, x2, x3, x4, some (.lst (F0.map encF)), some (.int s), x7, x8, x9, x10, x11, x12] g = .ok (.nx [some (encE es), x1, x2, x3, y4, some (.lst (F.map encF)), some (.int s), y7, y8, y9, y10, y11, x12]) g ∧
      F.length ≤ F0.length + 3 * 4 ^ n ∧ ∀ x, x ∈ F ↔ x ∈ F0 ∨ DerL es s s [] 0 x := by
  obtain ⟨env', g', h1, F, y4, y8, y9, y10, y11, rfl, rfl, hS⟩ := while_run (τ := valT (bin2 neVD (varE 7) (lstE nilA))) (ρ := b_law_rounds5)
    (fun m env g' => ∃ (F : List (Int × Int)) (rows : List Row) (y4 y8 y9 y10 y11 : Option D), env = [some (encE es), x1, x2, x3, y4, some (.lst (F.map encF)), some (.int s), some (.lst (rows.map encRw)), y8, y9, y10, y11, x12] ∧ g' = g ∧ Sea n es s F0 F rows ∧ m = Ws n rows)
    (fun env g' => ∃ (F : List (Int × Int)) (y4 y8 y9 y10 y11 : Option D), env = [some (encE es), x1, x2, x3, y4, some (.lst (F.map encF)), some (.int s), some (.lst []), y8, y9, y10, y11, x12] ∧ g' = g ∧ Sea n es s F0 F []) (by
      rintro m env g1 ⟨F, rows, y4, y8, y9, y10, y11, rfl, rfl, hS, rfl⟩
      refine ⟨!decide (rows.map encRw = []), g1, ?_, fun ht => ?_, fun hf => ?_⟩
      · rw [valT_of (bin2_of (x := .lst (rows.map encRw)) (y := .lst []) rfl rfl (neVD_nil (plainAll_rows rows)))]
        rfl
      · have hne : rows ≠ [] := fun z => by rw [z] at ht; simp at ht
        obtain ⟨rows', row, rfl⟩ : ∃ a b, rows = a ++ [b] := ⟨rows.dropLast, rows.getLast hne, (List.dropLast_concat_getLast hne).symm⟩
        have hl := hS.len
        have hwl := Ws_len n (rows' ++ [row])
        rw [List.length_append, List.length_singleton] at hwl
        obtain ⟨z4, z8, z9, z10, z11, hb⟩ := row_turn hn6 hn (s := s) (F := F) (rows := rows') (hS.ok row (List.mem_append_right _ (List.mem_singleton.mpr rfl))) (by omega) (by omega) x1 x2 x3 y4 y8 y9 y10 y11 x12
        obtain ⟨h2, h3⟩ := hS.next hn
        exact ⟨_, g1, _, .inl (by rw [hb]; rfl), h3, _, _, z4, z8, z9, z10, z11, rfl, rfl, h2, rfl⟩
      · have : rows = [] := by simpa using hf
        subst this
        exact ⟨F, y4, y8, y9, y10, y11, rfl, rfl, hS⟩) _ [some (encE es), x1, x2, x3, x4, some (.lst (F0.map encF)), some (.int s), some (.lst ([(s, [], 0)].map encRw)), x8, x9, x10, x11, x12] g ⟨F0, [(s, [], 0)], x4, x8, x9, x10, x11, rfl, rfl, .start hs F0, rfl⟩
  refine ⟨F, y4, some (.lst []), y8, y9, y10, y11, ?_, ?_, fun x => ?_⟩
  · unfold b_law_rounds6
    have hA : asgNH [5] 7 (lstE (consA (tupE (consA (varE 6) (consA (tupE nilA) (consA (cE (.int 0)) nilA)))) nilA)) [some (encE es), x1, x2, x3, x4, some (.lst (F0.map encF)), some (.int s), x7, x8, x9, x10, x11, x12] = M.ret (.nx [some (encE es), x1, x2, x3, x4, some (.lst (F0.map encF)), some (.int s), some (.lst ([(s, [], 0)].map encRw)), x8, x9, x10, x11, x12]) := by
      rw [asgNH_of (d := .lst ([((s, [], 0) : Row)].map encRw)) rfl]
      rfl
    rw [seqS_of hA]
    exact h1
  · have := hS.len
    have e : Ws n [] = 0 := rfl
    omega
  · rw [← hS.iff]
    simp
/-- the whole def -/
theorem rounds_at {n : Nat} (hn6 : n ≤ 6) {es : Es} (hn : Net n es) {k : Int} (h0 : 0 ≤ k) (h1 : k < n) (g : Bag) :
    ∃ F : List (Int × Int), r__law_rounds [encE es, .int k] g = .ok (.lst (F.map encF)) g ∧ F.length ≤ n * (3 * 4 ^ n) ∧ ∀ x, x ∈ F ↔ ∃ m, Rch es k m ∧ DerL es m m [] 0 x := by
  obtain ⟨rs, y3, hw, hl, hm⟩ := reach_loop hn6 hn h0 h1 (some (.int k)) none none none none none none none none none g
  have h4 : 4 ^ n ≤ 4 ^ 6 := Nat.pow_le_pow_right (by decide) hn6
  have h46 : 4 ^ 6 = 4096 := by decide
  have hbig : 7 * (3 * 4096) + 3 < line := by unfold line; decide
  obtain ⟨env', g', hf, F, y4, y6, y7, y8, y9, y10, y11, rfl, rfl, hFl, hFi⟩ := for_run (O := [5]) (bd := nameB 6) (ρ := b_law_rounds6)
    (fun i env g' => ∃ (F : List (Int × Int)) (y4 y6 y7 y8 y9 y10 y11 : Option D), env = [some (encE es), some (.int k), some (encL rs), y3, y4, some (.lst (F.map encF)), y6, y7, y8, y9, y10, y11, none] ∧ g' = g ∧ F.length ≤ i * (3 * 4 ^ n) ∧ ∀ x, x ∈ F ↔ ∃ m ∈ rs.take i, DerL es m m [] 0 x)
    (rs.map D.int) [some (encE es), some (.int k), some (encL rs), y3, none, some (.lst (([] : List (Int × Int)).map encF)), none, none, none, none, none, none, none] g ⟨[], none, none, none, none, none, none, none, rfl, rfl, Nat.zero_le _, fun x => by simp⟩ (by
      rintro i d env g1 hd ⟨F, y4, y6, y7, y8, y9, y10, y11, rfl, rfl, hFl, hFi⟩
      rw [List.getElem?_map] at hd
      obtain ⟨s, hs, rfl⟩ := Option.map_eq_some_iff.mp hd
      have hi := (List.getElem?_eq_some_iff.mp hs).1
      have hsm := List.mem_of_getElem? hs
      have hin := rch_in hn h0 h1 s ((hm s).mp hsm)
      have hi6 : i * (3 * 4 ^ n) ≤ 6 * (3 * 4 ^ n) := Nat.mul_le_mul_right _ (by omega)
      obtain ⟨F2, z4, z7, z8, z9, z10, z11, hb, hl2, hi2⟩ := search hn6 hn hin F (by omega) (some (.int k)) (some (encL rs)) y3 y4 y7 y8 y9 y10 y11 none g1
      refine ⟨[(6, .int s)], rfl, rfl, _, g1, .inl hb, F2, z4, some (.int s), z7, z8, z9, z10, z11, rfl, rfl, ?_, fun x => ?_⟩
      · rw [Nat.add_mul]
        omega
      · rw [hi2, hFi, List.take_add_one, hs]
        simp only [Option.toList, List.mem_append, List.mem_singleton]
        constructor
        · rintro (⟨m, h, h'⟩ | h)
          · exact ⟨m, .inl h, h'⟩
          · exact ⟨s, .inr rfl, h⟩
        · rintro ⟨m, h | rfl, h'⟩
          · exact .inl ⟨m, h, h'⟩
          · exact .inr h')
  rw [List.length_map] at hFl hFi
  rw [List.take_length] at hFi
  refine ⟨F, fnD_ok (env := [some (encE es), some (.int k), none, none, none, none, none, none, none, none, none, none, none]) rfl ?_, Nat.le_trans hFl (Nat.mul_le_mul_right _ hl), fun x => ?_⟩
  · unfold s__law_rounds
    have hA : asgH [] 2 (lstE (consA (varE 1) nilA)) [some (encE es), some (.int k), none, none, none, none, none, none, none, none, none, none, none] = M.ret (.nx [some (encE es), some (.int k), some (encL [k]), none, none, none, none, none, none, none, none, none, none]) := rfl
    have hB : asgH [] 3 (cE (.int 0)) [some (encE es), some (.int k), some (encL [k]), none, none, none, none, none, none, none, none, none, none] = M.ret (.nx [some (encE es), some (.int k), some (encL [k]), some (.int 0), none, none, none, none, none, none, none, none, none]) := rfl
    have hC : asgNH [] 5 (lstE nilA) [some (encE es), some (.int k), some (encL rs), y3, none, none, none, none, none, none, none, none, none] = M.ret (.nx [some (encE es), some (.int k), some (encL rs), y3, none, some (.lst []), none, none, none, none, none, none, none]) := rfl
    rw [seqS_of hA, seqS_of hB, seqS_ok hw, seqS_of hC]
    have hD : forH [5] (seqI (varE 2)) (nameB 6) b_law_rounds6 [some (encE es), some (.int k), some (encL rs), y3, none, some (.lst []), none, none, none, none, none, none, none] g' = .ok (.nx [some (encE es), some (.int k), some (encL rs), y3, y4, some (.lst (F.map encF)), y6, y7, y8, y9, y10, y11, none]) g' := hf
    rw [seqS_ok hD]
    rfl
  · rw [hFi]
    constructor
    · rintro ⟨m, h, h'⟩
      exact ⟨m, (hm m).mp h, h'⟩
    · rintro ⟨m, h, h'⟩
      exact ⟨m, (hm m).mpr h, h'⟩
end K80

/-! K80R4: _law_is_saved. -/
namespace K80
open PySem PySem.Spec L2 RZ VS
open PyProof.Rows hiding St

def Sv (ns : List Nd) (k : Int) (s : Sg) : Prop := ∀ m, Rch (edges ns s) k m → ∀ r, Der (edges ns s) m m [] 0 r → 0 ≤ r
theorem plainAll_F : ∀ rows : List (Int × Int), PyData.plainAll (toPys (rows.map encF)) = true
  | [] => rfl
  | r :: rs => by
    simpa [toPys, PyData.plainAll, toPy, PyData.plain, encF] using plainAll_F rs
theorem saved_turn {ns : List Nd} (h : Good ns) {k : Int} (h0 : 0 ≤ k) (h1 : k < ns.length) {s : Sg} (hs : Ch ns s) (g : Bag) :
    (b_law_is_saved2 [some (encNs ns), some (.int k), some (encS s), none] g = .ok (.nx [some (encNs ns), some (.int k), some (encS s), none]) g ∧ ¬ Sv ns k s) ∨ (b_law_is_saved2 [some (encNs ns), some (.int k), some (encS s), none] g = .ok (.rt (.bl true)) g ∧ Sv ns k s) := by
  have l6 := h.l6
  have hn := h.net hs
  obtain ⟨F, hF, hl, hm⟩ := rounds_at (by omega) hn h0 h1 g
  have hb : ns.length * (3 * 4 ^ ns.length) ≤ 6 * (3 * 4 ^ 6) := Nat.mul_le_mul (by omega) (Nat.mul_le_mul_left _ (Nat.pow_le_pow_right (by decide) (by omega)))
  have hbig : 6 * (3 * 4 ^ 6) ≤ line := by unfold line; decide
  have h2 : e_law_is_saved1 [some (encNs ns), some (.int k), some (encS s), none] g = .ok (.lst ((F.filter fun x => decide (x.1 < 0)).map encF)) g := by
    unfold e_law_is_saved1
    refine lc_run_at encF _ _ F ?_ (by omega) fun x hx => ⟨[(3, encF x)], rfl, ?_, fun _ => rfl⟩
    · exact seqI_at (fnE_at (args2 (fnE_of (args2 rfl rfl) rfl (edges_eq h hs)) rfl) rfl hF) rfl
    · exact valT_of (bin2_of (x := .int x.1) (y := .int 0) (bin2_of (x := encF x) (y := .int 0) rfl rfl (by unfold encF; rw [ixD_tup, atI_0])) rfl (ltD_ii _ _))
  have h3 : valT (bin2 eqVD e_law_is_saved1 (lstE nilA)) [some (encNs ns), some (.int k), some (encS s), none] g = .ok (decide ((F.filter fun x => decide (x.1 < 0)).map encF = [])) g := by
    rw [valT_eq, bin2_eq, bnd_assoc, bnd_okM h2]
    show (M.bnd (M.ofO (eqVD _ (.lst []))) _) g = _
    rw [eqVD_nil (plainAll_F _)]
    rfl
  unfold b_law_is_saved2
  by_cases hv : Sv ns k s
  · refine .inr ⟨?_, hv⟩
    rw [ifS_eq, bnd_okM h3, if_pos]
    · rfl
    · rw [decide_eq_true_eq, List.map_eq_nil_iff, List.filter_eq_nil_iff]
      intro x hx
      obtain ⟨m, hr, hd⟩ := (hm x).mp hx
      have := hv m hr _ hd.der
      simpa using this
  · refine .inl ⟨?_, hv⟩
    rw [ifS_eq, bnd_okM h3, if_neg]
    · rfl
    · rw [decide_eq_true_eq, List.map_eq_nil_iff, List.filter_eq_nil_iff]
      intro hall
      refine hv fun m hr r hd => ?_
      obtain ⟨l, hd⟩ := hd.derL
      have := hall (r, l) ((hm _).mpr ⟨m, hr, hd⟩)
      simpa using this
theorem saved_loop {ns : List Nd} (h : Good ns) {k : Int} (h0 : 0 ≤ k) (h1 : k < ns.length) (g : Bag) : ∀ (l : List Sg), (∀ s ∈ l, Ch ns s) → ∀ x2 : Option D,
    (∃ y2, forGo [] (nameB 2) b_law_is_saved2 (l.map encS) [some (encNs ns), some (.int k), x2, none] g = .ok (.nx [some (encNs ns), some (.int k), y2, none]) g ∧ ∀ s ∈ l, ¬ Sv ns k s) ∨ (forGo [] (nameB 2) b_law_is_saved2 (l.map encS) [some (encNs ns), some (.int k), x2, none] g = .ok (.rt (.bl true)) g ∧ ∃ s ∈ l, Sv ns k s)
  | [], _, x2 => .inl ⟨x2, rfl, fun s hs => nomatch hs⟩
  | s :: l, hl, x2 => by
    have step : forGo [] (nameB 2) b_law_is_saved2 ((s :: l).map encS) [some (encNs ns), some (.int k), x2, none] = M.bnd (b_law_is_saved2 [some (encNs ns), some (.int k), some (encS s), none]) (goS (forGo [] (nameB 2) b_law_is_saved2 (l.map encS))) := forGo_cons (l := [(2, encS s)]) rfl rfl
    rw [step]
    rcases saved_turn h h0 h1 (hl s List.mem_cons_self) g with ⟨ht, hv⟩ | ⟨ht, hv⟩
    · rw [bnd_okM ht]
      show (∃ y2, forGo [] (nameB 2) b_law_is_saved2 (l.map encS) [some (encNs ns), some (.int k), some (encS s), none] g = _ ∧ _) ∨ (forGo [] (nameB 2) b_law_is_saved2 (l.map encS) [some (encNs ns), some (.int k), some (encS s), none] g = _ ∧ _)
      rcases saved_loop h h0 h1 g l (fun u hu => hl u (List.mem_cons_of_mem _ hu)) (some (encS s)) with ⟨y2, hr, hn⟩ | ⟨hr, u, hu, hvu⟩
      · refine .inl ⟨y2, hr, fun u hu => ?_⟩
        rcases List.mem_cons.mp hu with rfl | hu
        · exact hv
        · exact hn u hu
      · exact .inr ⟨hr, u, List.mem_cons_of_mem _ hu, hvu⟩
    · rw [bnd_okM ht]
      exact .inr ⟨rfl, s, List.mem_cons_self, hv⟩
open Classical in
theorem saved_at {ns : List Nd} (h : Good ns) {f : Fs} (hL : Least ns (most ns) f) {k : Int} (h0 : 0 ≤ k) (h1 : k < ns.length) (g : Bag) : r__law_is_saved [encNs ns, .int k] g = .ok (.bl (decide (at_ f k.toNat ≠ none))) g := by
  refine fnD_ok (env := [some (encNs ns), some (.int k), none, none]) rfl ?_
  have hc : seqI (fnE r__law_choices (consA (varE 0) (consA (cE (.int 0)) nilA)) p__law_choices.length) (hide [] [some (encNs ns), some (.int k), none, none]) = M.ret ((chs ns).map encS) := by
    exact seqI_of (fnE_of (args2 rfl rfl) rfl (choices_eq h)) rfl
  unfold s__law_is_saved
  rcases saved_loop h h0 h1 g (chs ns) (fun s hs => mem_chs.mp hs) none with ⟨y2, hr, hn⟩ | ⟨hr, s, hs, hv⟩
  · have hA : forH [] (seqI (fnE r__law_choices (consA (varE 0) (consA (cE (.int 0)) nilA)) p__law_choices.length)) (nameB 2) b_law_is_saved2 [some (encNs ns), some (.int k), none, none] g = .ok (.nx [some (encNs ns), some (.int k), y2, none]) g := by
      rw [forH_eq, hc, bnd_ret]
      exact hr
    rw [seqS_ok hA]
    have : ¬ at_ f k.toNat ≠ none := fun z => by
      obtain ⟨s, hs, hv⟩ := saved_from h hL h0 h1 z
      exact hn s (mem_chs.mpr hs) hv
    rw [decide_eq_false this]
    rfl
  · have hA : forH [] (seqI (fnE r__law_choices (consA (varE 0) (consA (cE (.int 0)) nilA)) p__law_choices.length)) (nameB 2) b_law_is_saved2 [some (encNs ns), some (.int k), none, none] g = .ok (.rt (.bl true)) g := by
      rw [forH_eq, hc, bnd_ret]
      exact hr
    have : at_ f k.toNat ≠ none := saved_to h hL (mem_chs.mp hs) h0 h1 hv
    rw [decide_eq_true this, seqS_eq, bnd_okM hA]
    rfl
end K80

/-! K80S1: judge_energies. -/
namespace K80
open PySem PySem.Spec L2 RZ VS
open PyProof.Rows hiding St

def rz {α : Type} (c : Nat) (p : D) : M α := fun g => .exn c p g
theorem bnd_rz {α β : Type} (c : Nat) (p : D) (f : α → M β) : M.bnd (rz c p) f = rz c p := rfl
theorem catch_rz (c : Nat) (p : D) (h : c = 0 ∨ c = 1) : catchM (rz c p) = M.ret p := by
  funext g
  show (if c = 0 ∨ c = 1 then Out.ok p g else .bad) = _
  rw [if_pos h]
  rfl
theorem catch_ret (d : D) : catchM (M.ret d) = M.ret d := rfl
def okD : D → Bool
  | .non => true
  | .int i => decide (0 ≤ i)
  | _ => false
def Pd (d : D) : Prop := d = .non ∨ (∃ i, d = .int i) ∨ ∃ b, d = .bl b
theorem Pd.encO (o : Option Int) : Pd (encO o) := by
  cases o with
  | none => exact .inl rfl
  | some i => exact .inr (.inl ⟨i, rfl⟩)
theorem judge1 (xs : List D) (hx : ∀ x ∈ xs, Pd x) (hl : xs.length ≤ line) (x0 x2 x3 x4 : Option D) : e_judge_energies1 [x0, some (.tup xs), x2, x3, x4] = M.ret (.lst ((xs.map okD).map D.bl)) := by
  unfold e_judge_energies1
  rw [lc_runA id (fun d => .bl (okD d)) xs (by rw [List.map_id]; rfl) hl fun d hd => ⟨[(2, d)], rfl, ?_⟩, List.map_map]
  · rfl
  · rcases hx d hd with rfl | ⟨i, rfl⟩ | ⟨b, rfl⟩
    · simp [okD]
    · by_cases h : 0 ≤ i <;> simp [okD, h, isNonD]
    · simp [okD, isNonD]
def badO (o u : Option Int) : Bool := match o, u with
  | none, _ => false
  | some _, none => true
  | some c, some d => decide (c < d)
theorem judge2 {ns : List Nd} {f : Fs} (n : Nd) (hl : n.2.length ≤ 1000) (hne : n.2 ≠ []) (hw : ∀ w ∈ n.2, 0 ≤ w.1 ∧ w.1 < f.length) (o : Option Int) (x0 x4 : Option D) :
    b_judge_energies2 [x0, some (.tup (f.map encO)), some (encO o), some (encN n), x4] = if badO o (due n f) = true then rz 1 (.str "due") else M.ret (.nx [x0, some (.tup (f.map encO)), some (encO o), some (encN n), some (encO (due n f))]) := by
  have hA : asgH [] 4 (fnE r_due_of (consA (varE 3) (consA (varE 1) nilA)) p_due_of.length) [x0, some (.tup (f.map encO)), some (encO o), some (encN n), x4] = M.ret (.nx [x0, some (.tup (f.map encO)), some (encO o), some (encN n), some (encO (due n f))]) :=
    asgH_of (fnE_of (args2 rfl rfl) rfl (due_eq n hl hne _ f (.inr rfl) hw))
  unfold b_judge_energies2
  rw [seqS_of hA]
  have ht : andT (valT (bin2 notNonD (varE 2) (cE .non))) (orT (valT (bin2 isNonD (varE 4) (cE .non))) (valT (bin2 ltD (varE 2) (varE 4)))) [x0, some (.tup (f.map encO)), some (encO o), some (encN n), some (encO (due n f))] = M.ret (badO o (due n f)) := by
    cases o with
    | none => simp [encO, badO]
    | some c =>
      cases due n f with
      | none => simp [encO, badO]
      | some d => simp [encO, badO]
  rw [ifS_of ht]
  rfl
theorem judge_loop {ns : List Nd} {f : Fs} : ∀ (ps : List (Option Int × Nd)), (∀ p ∈ ps, p.2.2.length ≤ 1000 ∧ p.2.2 ≠ [] ∧ ∀ w ∈ p.2.2, 0 ≤ w.1 ∧ w.1 < f.length) → ∀ (x0 x2 x3 x4 : Option D),
    ∃ y2 y3 y4, forGo [] (tupB 2 (consB (nameB 2) (consB (nameB 3) nilB))) b_judge_energies2 (ps.map fun p => .tup [encO p.1, encN p.2]) [x0, some (.tup (f.map encO)), x2, x3, x4] = if (ps.any fun p => badO p.1 (due p.2 f)) = true then rz 1 (.str "due") else M.ret (.nx [x0, some (.tup (f.map encO)), y2, y3, y4])
  | [], _, x0, x2, x3, x4 => ⟨x2, x3, x4, rfl⟩
  | p :: ps, h, x0, x2, x3, x4 => by
    obtain ⟨h1, h2, h3⟩ := h p List.mem_cons_self
    obtain ⟨y2, y3, y4, ih⟩ := judge_loop (ns := ns) ps (fun q hq => h q (List.mem_cons_of_mem _ hq)) x0 (some (encO p.1)) (some (encN p.2)) (some (encO (due p.2 f)))
    refine ⟨y2, y3, y4, ?_⟩
    have step : forGo [] (tupB 2 (consB (nameB 2) (consB (nameB 3) nilB))) b_judge_energies2 ((p :: ps).map fun p => .tup [encO p.1, encN p.2]) [x0, some (.tup (f.map encO)), x2, x3, x4] = M.bnd (b_judge_energies2 [x0, some (.tup (f.map encO)), some (encO p.1), some (encN p.2), x4]) (goS (forGo [] (tupB 2 (consB (nameB 2) (consB (nameB 3) nilB))) b_judge_energies2 (ps.map fun p => .tup [encO p.1, encN p.2]))) := forGo_cons (l := [(2, encO p.1), (3, encN p.2)]) (by simp) (by simp)
    rw [step, judge2 (ns := ns) p.2 h1 h2 h3, List.any_cons]
    cases hb : badO p.1 (due p.2 f) with
    | true => rfl
    | false =>
      rw [if_neg (by decide), bnd_ret, Bool.false_or]
      exact ih
theorem look_bad {d : D} (h : r_is_weighing [d] = M.ret (.bl false)) : r_look_at [d] = rz 0 (.int 0) := by
  show M.bnd (s_look_at [some d]) endM = _
  unfold s_look_at
  have e : fnE r_is_weighing (consA (varE 0) nilA) p_is_weighing.length [some d] = M.ret (.bl false) := fnE_of (args1 rfl) rfl h
  rw [ifS_of (notT_of (valT_of e))]
  rfl
theorem judge_game {d p : D} (h : r_is_weighing [d] = M.ret (.bl false)) : r_judge_energies [d, p] = rz 0 (.int 0) := by
  show M.bnd (s_judge_energies [some d, some p, none, none, none]) endM = _
  unfold s_judge_energies
  have : dropS (fnXE r_look_at (consA (varE 0) nilA) p_look_at.length) [some d, some p, none, none, none] = rz 0 (.int 0) := by
    have e : fnXE r_look_at (consA (varE 0) nilA) p_look_at.length [some d, some p, none, none, none] = r_look_at [d] := fnXE_of (args1 rfl) rfl
    rw [dropS_eq, e, look_bad h]
    rfl
  rw [seqS_eq, this]
  rfl
theorem judge_enter {ns : List Nd} (h : Good ns) (p : D) : r_judge_energies [encG ns, p] = M.bnd ((seqS (ifS (orT (notT (valT (isaE "tuple" (varE 1)))) (valT (bin2 neVD (callE lenL (consA (varE 1) nilA)) (callE lenL (consA (bin2 ixD (varE 0) (cE (.int 1))) nilA))))) (raiseS 1 (cE (.str "form"))) nxS) (seqS (ifS (notT (valT (callE allL (consA e_judge_energies1 nilA)))) (raiseS 1 (cE (.str "form"))) nxS) (forH [] (zipI (consA (varE 1) (consA (bin2 ixD (varE 0) (cE (.int 1))) nilA))) (tupB 2 (consB (nameB 2) (consB (nameB 3) nilB))) b_judge_energies2))) [some (encG ns), some p, none, none, none]) endM := by
  show M.bnd (s_judge_energies [some (encG ns), some p, none, none, none]) endM = _
  unfold s_judge_energies
  rw [seqS_of (show dropS (fnXE r_look_at (consA (varE 0) nilA) p_look_at.length) [some (encG ns), some p, none, none, none] = M.ret (.nx [some (encG ns), some p, none, none, none]) by
    have e : fnXE r_look_at (consA (varE 0) nilA) p_look_at.length [some (encG ns), some p, none, none, none] = r_look_at [encG ns] := fnXE_of (args1 rfl) rfl
    exact dropS_of (e.trans (look_ok h)))]
theorem judge_notup {ns : List Nd} (h : Good ns) {p : D} (hp : isaD "tuple" p = some (.bl false)) : r_judge_energies [encG ns, p] = rz 1 (.str "form") := by
  rw [judge_enter h]
  rw [seqS_eq, ifS_of (c := true) (by
    rw [orT_eq, notT_eq, valT_of (b := false) (by rw [isaE_eq]; show M.ofO (isaD "tuple" p) = _; rw [hp]; rfl)]
    rfl)]
  rfl
theorem judge_test {ns : List Nd} (xs : List D) : orT (notT (valT (isaE "tuple" (varE 1)))) (valT (bin2 neVD (callE lenL (consA (varE 1) nilA)) (callE lenL (consA (bin2 ixD (varE 0) (cE (.int 1))) nilA)))) [some (encG ns), some (.tup xs), none, none, none] = M.ret (!decide ((xs.length : Int) = ns.length)) := by
  rw [orT_eq, notT_eq, valT_of (b := true) (by rw [isaE_eq]; simp), bnd_ret]
  have h2 : bin2 ixD (varE 0) (cE (.int 1)) [some (encG ns), some (.tup xs), none, none, none] = M.ret (encNs ns) := bin2_of (x := encG ns) (y := .int 1) rfl rfl (by unfold encG; rw [ixD_tup, atI_1])
  rw [valT_of (bin2_of (x := .int xs.length) (y := .int ns.length) (call1_of (x := .tup xs) rfl rfl) (call1_of h2 (by unfold encNs; rw [lenL_tup, List.length_map])) (neVD_ii _ _))]
  rfl
theorem judge_len {ns : List Nd} (h : Good ns) (xs : List D) (hl : xs.length ≠ ns.length) : r_judge_energies [encG ns, .tup xs] = rz 1 (.str "form") := by
  rw [judge_enter h, seqS_eq, ifS_of (judge_test xs), if_pos (by
    have : ¬ (xs.length : Int) = ns.length := by omega
    simpa using this)]
  rfl
theorem judge_past {ns : List Nd} (h : Good ns) (xs : List D) (hx : ∀ x ∈ xs, Pd x) (hl : xs.length = ns.length) : r_judge_energies [encG ns, .tup xs] = if xs.all okD = true then M.bnd (forGo [] (tupB 2 (consB (nameB 2) (consB (nameB 3) nilB))) b_judge_energies2 (zipD xs (ns.map encN)) [some (encG ns), some (.tup xs), none, none, none]) endM else rz 1 (.str "form") := by
  have l6 := h.l6
  rw [judge_enter h]
  have h1 : ifS (orT (notT (valT (isaE "tuple" (varE 1)))) (valT (bin2 neVD (callE lenL (consA (varE 1) nilA)) (callE lenL (consA (bin2 ixD (varE 0) (cE (.int 1))) nilA))))) (raiseS 1 (cE (.str "form"))) nxS [some (encG ns), some (.tup xs), none, none, none] = M.ret (.nx [some (encG ns), some (.tup xs), none, none, none]) := by
    rw [ifS_of (judge_test xs), if_neg (by rw [hl]; simp)]
    rfl
  rw [seqS_of h1]
  have h2 : notT (valT (callE allL (consA e_judge_energies1 nilA))) [some (encG ns), some (.tup xs), none, none, none] = M.ret (!(xs.all okD)) := by
    have h9 : xs.length ≤ line := by rw [hl]; unfold line; omega
    rw [notT_eq, valT_of (call1_of (judge1 xs hx h9 _ _ _ _) (allL_map _))]
    rw [List.all_map]
    rfl
  by_cases ha : xs.all okD = true
  · rw [if_pos ha]
    rw [seqS_of (show ifS (notT (valT (callE allL (consA e_judge_energies1 nilA)))) (raiseS 1 (cE (.str "form"))) nxS [some (encG ns), some (.tup xs), none, none, none] = M.ret (.nx [some (encG ns), some (.tup xs), none, none, none]) by
      rw [ifS_of h2, ha]
      rfl)]
    rw [forH_eq]
    have h3 : zipI (consA (varE 1) (consA (bin2 ixD (varE 0) (cE (.int 1))) nilA)) (hide [] [some (encG ns), some (.tup xs), none, none, none]) = M.ret (zipD xs (ns.map encN)) := by
      rw [zipI_eq, args2 (x := .tup xs) (y := encNs ns) rfl (bin2_of (x := encG ns) (y := .int 1) rfl rfl (by unfold encG; rw [ixD_tup, atI_1]))]
      rfl
    rw [h3, bnd_ret]
  · rw [if_neg ha, seqS_eq, ifS_of h2, if_pos (by simpa using ha)]
    rfl
theorem judge_bad {ns : List Nd} (h : Good ns) (xs : List D) (hx : ∀ x ∈ xs, Pd x) (hl : xs.length = ns.length) (ha : ¬ xs.all okD = true) : r_judge_energies [encG ns, .tup xs] = rz 1 (.str "form") := by
  rw [judge_past h xs hx hl, if_neg ha]
theorem judge_fs {ns : List Nd} (h : Good ns) {f : Fs} (hl : f.length = ns.length) (hp : ∀ o ∈ f, okD (encO o) = true) : r_judge_energies [encG ns, .tup (f.map encO)] = if ((f.zip ns).any fun p => badO p.1 (due p.2 f)) = true then rz 1 (.str "due") else M.ret .non := by
  rw [judge_past h (f.map encO) (fun x hx => by obtain ⟨o, _, rfl⟩ := List.mem_map.mp hx; exact .encO o) (by rw [List.length_map, hl])]
  rw [if_pos (by rw [List.all_map]; exact List.all_eq_true.mpr fun o ho => hp o ho), zipD_map2]
  obtain ⟨y2, y3, y4, hj⟩ := judge_loop (ns := ns) (f := f) (f.zip ns) (fun p hp => by
    have hm : p.2 ∈ ns := (List.of_mem_zip (a := p.1) (b := p.2) hp).2
    have := h.few _ hm
    exact ⟨by omega, h.ne _ hm, fun w hw => by
      have := h.way _ hm w hw
      rw [hl]
      exact ⟨this.1, this.2.1⟩⟩) (some (encG ns)) none none none
  rw [hj]
  split <;> rfl
end K80

/-! K80S2: _law_weighing. -/
namespace K80
open PySem PySem.Spec L2 RZ VS
open PyProof.Rows hiding St

theorem draw_is : r__law_draw = drawF := rfl
theorem draw_call {env : Slots} {a : EX} {many : Int} (h0 : varE 0 env = M.ret .bag) (ha : a env = M.ret (.int many)) (hm : 0 < many ∧ many < 1073741824) (g : Bag) : ∃ v g', fnE r__law_draw (consA (varE 0) (consA a nilA)) p__law_draw.length env g = .ok (.int v) g' ∧ 0 ≤ v ∧ v < many := by
  obtain ⟨v, g', h, hv⟩ := draw_at hm g
  exact ⟨v, g', fnE_at (args2 h0 ha) rfl (by rw [draw_is]; exact h), hv⟩
theorem sort_tups {α : Type} (x : α → List Int) (ws : List α) : sortD (ws.map fun w => tupR (x w)) = (ws.mergeSort fun a b => decide (x a ≤ x b)).map fun w => tupR (x w) := by
  unfold sortD
  rw [List.map_mergeSort (r := fun a b => decide (x a ≤ x b))]
  intro a _ b _
  rw [PySem.W.dataLe_eq]
  show _ = !PySem.W.dataLt (toPy (tupR (x b))) (toPy (tupR (x a)))
  rw [lt_rows]
  by_cases h : x b < x a
  · have h' : ¬ x a ≤ x b := fun r => List.not_lt.mpr r h
    simp [h, h']
  · have h' : x a ≤ x b := List.not_lt.mp h
    simp [h, h']
theorem sortOk_tups {α : Type} (x : α → List Int) (ws : List α) (pair : ∀ w, ∃ a b, x w = [a, b]) (hl : ws.length ≤ line) : sortOk (ws.map fun w => tupR (x w)) := by
  have hm : (ws.map fun w => tupR (x w)).map toPy = ws.map fun w => PyData.tuple ((x w).map .int) := by
    rw [List.map_map]
    exact List.map_congr_left fun w _ => toPy_tupR _
  refine ⟨?_, ?_, ?_, by rw [List.length_map]; exact hl⟩
  · rw [hm]
    refine List.all_eq_true.mpr fun d hd => List.all_eq_true.mpr fun e he => ?_
    obtain ⟨w, _, rfl⟩ := List.mem_map.mp hd
    obtain ⟨u, _, rfl⟩ := List.mem_map.mp he
    obtain ⟨a, b, ea⟩ := pair w
    obtain ⟨c, d, ec⟩ := pair u
    rw [ea, ec]
    simp [PySem.W.alike, PySem.W.alikeAll]
  · rw [hm]
    refine Bool.or_eq_true _ _ ▸ .inl (List.all_eq_true.mpr fun d hd => ?_)
    obtain ⟨w, _, rfl⟩ := List.mem_map.mp hd
    obtain ⟨a, b, ea⟩ := pair w
    rw [ea]
    rfl
  · rw [hm]
    refine List.all_eq_true.mpr fun d hd => ?_
    obtain ⟨w, _, rfl⟩ := List.mem_map.mp hd
    obtain ⟨a, b, ea⟩ := pair w
    rw [ea]
    rfl
theorem sort_ways (ws : List Way) (hl : ws.length ≤ line) (nd : (ws.map (·.1)).Nodup) : ∃ us : List Way, sortL [.lst (ws.map encW)] = some (.lst (us.map encW)) ∧ us.Perm ws ∧ us.Pairwise fun a b => a.1 < b.1 := by
  have e : ws.map encW = ws.map fun w => tupR [w.1, w.2] := rfl
  obtain ⟨hp, hperm⟩ := rows_sorted (fun w => [w.1, w.2]) ws
  refine ⟨ws.mergeSort fun a b => decide ([a.1, a.2] ≤ [b.1, b.2]), ?_, hperm, ?_⟩
  · show (if sortOk (ws.map encW) then _ else _) = _
    rw [if_pos (by rw [e]; exact sortOk_tups (fun w : Way => [w.1, w.2]) ws (fun w => ⟨_, _, rfl⟩) hl), e, sort_tups]
    rfl
  · have nd2 := ((hperm.map (·.1)).nodup_iff).mpr nd
    revert hp nd2
    generalize (ws.mergeSort fun a b => decide ([a.1, a.2] ≤ [b.1, b.2])) = us
    intro hp nd2
    have hd : us.Pairwise fun a b => a.1 ≠ b.1 := List.pairwise_map.mp nd2
    refine (hp.and hd).imp fun {a b} h => ?_
    have h1 : ¬ [b.1, b.2] < [a.1, a.2] := List.not_lt.mpr h.1
    have h2 := h.2
    have h3 : ¬ b.1 < a.1 := fun z => h1 (List.cons_lt_cons_iff.mpr (.inl z))
    omega
/-- a form for all items -/
theorem forms {α : Type} {enc : α → D} {Q : α → Prop} : ∀ {xs : List D}, (∀ v ∈ xs, ∃ p, v = enc p ∧ Q p) → ∃ ps : List α, xs = ps.map enc ∧ ∀ p ∈ ps, Q p
  | [], _ => ⟨[], rfl, fun _ h => nomatch h⟩
  | x :: xs, h => by
    obtain ⟨p, rfl, hq⟩ := h x List.mem_cons_self
    obtain ⟨ps, rfl, hqs⟩ := forms (enc := enc) (Q := Q) fun v hv => h v (List.mem_cons_of_mem _ hv)
    refine ⟨p :: ps, rfl, fun q hq' => ?_⟩
    rcases List.mem_cons.mp hq' with rfl | hq'
    · exact hq
    · exact hqs q hq'
def okW (m : Int) (w : Way) : Prop := 0 ≤ w.1 ∧ w.1 < m ∧ -4 ≤ w.2 ∧ w.2 ≤ 4
theorem weigh_draws {m : Int} (h1 : 1 ≤ m) (h6 : m ≤ 6) (x1 x4 x5 x6 x7 x8 : Option D) (g : Bag) :
    ∃ (ps : List Way) (g' : Bag), e_law_weighing1 [some .bag, x1, some (.int 4), some (.int m), x4, x5, x6, x7, x8] g = .ok (.lst (ps.map encW)) g' ∧ ps ≠ [] ∧ ps.length ≤ 3 ∧ ∀ p ∈ ps, okW m p := by
  obtain ⟨v, g1, hv, hv0, hv3⟩ := draw_call (env := [some .bag, x1, some (.int 4), some (.int m), x4, x5, x6, x7, x8]) (a := cE (.int 3)) (many := 3) rfl rfl (by decide) g
  have e1 : bin2 addD (cE (.int 1)) (fnE r__law_draw (consA (varE 0) (consA (cE (.int 3)) nilA)) p__law_draw.length) [some .bag, x1, some (.int 4), some (.int m), x4, x5, x6, x7, x8] g = .ok (.int ((1 + v).toNat : Nat)) g1 := by
    rw [bin2_at (x := .int 1) rfl hv rfl, Int.toNat_of_nonneg (by omega)]
  obtain ⟨xs, g2, h2, hl, hQ⟩ := lc_draw (ι := rng1I (consA (bin2 addD (cE (.int 1)) (fnE r__law_draw (consA (varE 0) (consA (cE (.int 3)) nilA)) p__law_draw.length)) nilA)) (bd := nameB 7) (ρ := tupE (consA (fnE r__law_draw (consA (varE 0) (consA (varE 3) nilA)) p__law_draw.length) (consA (bin2 subD (fnE r__law_draw (consA (varE 0) (consA (bin2 addD (bin2 mulD (cE (.int 2)) (varE 2)) (cE (.int 1))) nilA)) p__law_draw.length) (varE 2)) nilA))) (vs := [7])
    (env := [some .bag, x1, some (.int 4), some (.int m), x4, x5, x6, x7, x8]) (fun d => ∃ p, d = encW p ∧ okW m p) (rngD 0 (1 + v).toNat) (rng1_at e1 (by omega)) (by rw [rngD_length]; unfold line; omega) (by
      intro d _
      refine ⟨[(7, d)], rfl, fun g => ?_⟩
      show ∃ v g', tupE _ [some .bag, x1, some (.int 4), some (.int m), x4, x5, x6, some d, x8] g = .ok v g' ∧ _
      obtain ⟨a, g1, ha, ha0, ham⟩ := draw_call (env := [some .bag, x1, some (.int 4), some (.int m), x4, x5, x6, some d, x8]) (a := varE 3) (many := m) rfl rfl (by omega) g
      have e9 : bin2 addD (bin2 mulD (cE (.int 2)) (varE 2)) (cE (.int 1)) [some .bag, x1, some (.int 4), some (.int m), x4, x5, x6, some d, x8] = M.ret (.int 9) := bin2_of (x := .int 8) (y := .int 1) (bin2_of (x := .int 2) (y := .int 4) rfl rfl (mulD_const 2 4 (by omega))) rfl rfl
      obtain ⟨b, g2, hb, hb0, hb9⟩ := draw_call (env := [some .bag, x1, some (.int 4), some (.int m), x4, x5, x6, some d, x8]) (many := 9) rfl e9 (by decide) g1
      refine ⟨encW (a, b - 4), g2, ?_, (a, b - 4), rfl, ha0, ham, ?_, ?_⟩
      · exact tupE_at (consA_at ha (args1_at (bin2_at hb (y := .int 4) rfl rfl))) (Nat.le_of_ble_eq_true rfl)
      · show -4 ≤ b - 4
        omega
      · show b - 4 ≤ 4
        omega)
  obtain ⟨ps, rfl, hp⟩ := forms (enc := encW) hQ
  rw [rngD_length, List.length_map] at hl
  refine ⟨ps, g2, h2, fun z => ?_, by omega, hp⟩
  rw [z] at hl
  simp only [List.length_nil] at hl
  omega
theorem valX_zip : ∀ {ks bs : List Int} {w : Way}, ks.Nodup → ks.length = bs.length → w ∈ ks.zip bs → valX (ks.map (Sum.inl (β := Str))) (bs.map D.int) (.inl w.1) = some (.int w.2)
  | [], _, _, _, _, h => by simp at h
  | _ :: _, [], _, _, h, _ => by simp at h
  | k :: ks, b :: bs, w, nd, hl, h => by
    rw [List.zip_cons_cons] at h
    rw [List.map_cons, List.map_cons]
    unfold valX
    rcases List.mem_cons.mp h with rfl | h
    · rw [if_pos rfl]
    · have hk := (List.of_mem_zip (a := w.1) (b := w.2) h).1
      have hn := List.nodup_cons.mp nd
      rw [if_neg (fun z => hn.1 (by cases z; exact hk))]
      exact valX_zip hn.2 (by simpa using hl) h
theorem weigh_ways {ks bs : List Int} (nd : ks.Nodup) (hl : ks.length = bs.length) (h3 : ks.length ≤ 3) (x0 x1 x2 x3 x4 x5 x7 x8 : Option D) :
    e_law_weighing2 [x0, x1, x2, x3, x4, x5, some (.dK (ks.map Sum.inl) (bs.map D.int)), x7, x8] = M.ret (.lst ((ks.zip bs).map encW)) := by
  have hz : (ks.zip bs).length = ks.length := by rw [List.length_zip]; omega
  have hf : (ks.zip bs).map (fun w => D.int w.1) = ks.map D.int := by
    rw [show (fun w : Int × Int => D.int w.1) = D.int ∘ Prod.fst from rfl, ← List.map_map, List.map_fst_zip (by omega)]
  unfold e_law_weighing2
  refine lc_runA (fun w : Way => D.int w.1) encW (ks.zip bs) ?_ (by rw [hz]; unfold line; omega) fun w hw => ⟨[(8, .int w.1)], rfl, ?_⟩
  · rw [hf, keysI_eq]
    show M.ofO (some ((ks.map Sum.inl).map kD)) = _
    rw [List.map_map]
    rfl
  · show tupE _ [x0, x1, x2, x3, x4, x5, some (.dK (ks.map Sum.inl) (bs.map D.int)), x7, some (.int w.1)] = _
    refine tup2_of (x := .int w.1) (y := .int w.2) rfl (bin2_of (x := .dK (ks.map Sum.inl) (bs.map D.int)) (y := .int w.1) rfl rfl ?_)
    show valX (ks.map Sum.inl) (bs.map D.int) (.inl w.1) = _
    exact valX_zip nd hl hw
structure GoodN (m : Int) (n : Nd) : Prop where
  own : n.1 = 0 ∨ n.1 = 1
  ne : n.2 ≠ []
  few : n.2.length ≤ 3
  way : ∀ w ∈ n.2, okW m w
  srt : n.2.Pairwise fun a b => a.1 < b.1
theorem weigh_node {m : Int} (h1 : 1 ≤ m) (h6 : m ≤ 6) {ns : List Nd} (hn : ns.length ≤ 6) (x1 x5 x6 x7 x8 : Option D) (g : Bag) :
    ∃ n x6' g', b_law_weighing3 [some .bag, x1, some (.int 4), some (.int m), some (.lst (ns.map encN)), x5, x6, x7, x8] g = .ok (.nx [some .bag, x1, some (.int 4), some (.int m), some (.lst ((ns ++ [n]).map encN)), x5, x6', x7, x8]) g' ∧ GoodN m n := by
  obtain ⟨ps, g1, he, hne, hl3, hok⟩ := weigh_draws h1 h6 x1 none x5 x6 x7 x8 g
  obtain ⟨ks, xs, hd, nd, hlen, hm, hkl, hP⟩ := dictL_ints (fun x => ∃ b, x = D.int b ∧ (-4 ≤ b ∧ b ≤ 4)) (ps.map fun p => (p.1, D.int p.2)) fun p hp => by
    obtain ⟨q, hq, rfl⟩ := List.mem_map.mp hp
    have := hok q hq
    exact ⟨q.2, rfl, this.2.2⟩
  obtain ⟨bs, rfl, hbs⟩ := forms (enc := D.int) hP
  rw [List.map_map] at hd
  rw [List.length_map] at hkl hlen
  have hd' : dictL [.lst (ps.map encW)] = some (.dK (ks.map Sum.inl) (bs.map D.int)) := hd
  have hA : asgH [4] 6 (callE dictL (consA e_law_weighing1 nilA)) [some .bag, x1, some (.int 4), some (.int m), some (.lst (ns.map encN)), x5, x6, x7, x8] g = .ok (.nx [some .bag, x1, some (.int 4), some (.int m), some (.lst (ns.map encN)), x5, some (.dK (ks.map Sum.inl) (bs.map D.int)), x7, x8]) g1 :=
    asgH_at (call1_at he hd')
  have hz : (ks.zip bs).map (·.1) = ks := List.map_fst_zip (by omega)
  have hzl : (ks.zip bs).length = ks.length := by rw [List.length_zip]; omega
  obtain ⟨us, hs, hperm, hpw⟩ := sort_ways (ks.zip bs) (by rw [hzl]; unfold line; omega) (by rw [hz]; exact nd)
  obtain ⟨o, g2, ho, ho0, ho2⟩ := draw_call (env := [some .bag, x1, some (.int 4), some (.int m), none, x5, some (.dK (ks.map Sum.inl) (bs.map D.int)), x7, x8]) (a := cE (.int 2)) (many := 2) rfl rfl (by decide) g1
  have hw := weigh_ways nd hlen (by omega) (some .bag) x1 (some (.int 4)) (some (.int m)) none x5 x7 x8
  have hul : us.length = ks.length := by rw [hperm.length_eq, hzl]
  refine ⟨(o, us), some (.dK (ks.map Sum.inl) (bs.map D.int)), g2, ?_, ?_⟩
  · unfold b_law_weighing3
    rw [seqS_ok hA]
    have hB := appH_at (O := [4]) (i := 4) (env := [some .bag, x1, some (.int 4), some (.int m), some (.lst (ns.map encN)), x5, some (.dK (ks.map Sum.inl) (bs.map D.int)), x7, x8]) (g := g1) (xs := ns.map encN) (d := encN (o, us)) (g' := g2)
      (a := tupE (consA (fnE r__law_draw (consA (varE 0) (consA (cE (.int 2)) nilA)) p__law_draw.length) (consA (callE tupL (consA (callE sortL (consA e_law_weighing2 nilA)) nilA)) nilA))) rfl
      (tupE_at (consA_at ho (args1_at (call1_at (call1_at (show e_law_weighing2 _ g2 = .ok _ g2 by rw [show e_law_weighing2 (hide [4] [some .bag, x1, some (.int 4), some (.int m), some (.lst (ns.map encN)), x5, some (.dK (ks.map Sum.inl) (bs.map D.int)), x7, x8]) = _ from hw]; rfl) hs) rfl))) (Nat.le_of_ble_eq_true rfl)) (by rw [List.length_map]; unfold line; omega)
    rw [hB, List.map_append]
    rfl
  · refine ⟨by show o = 0 ∨ o = 1; omega, fun z => ?_, by show us.length ≤ 3; omega, fun w hw => ?_, hpw⟩
    · have z' : us = [] := z
      rw [z', List.length_nil] at hul
      obtain ⟨p, hp⟩ := List.exists_mem_of_ne_nil _ hne
      have := (hm p.1).mpr ⟨_, List.mem_map.mpr ⟨p, hp, rfl⟩, rfl⟩
      rw [List.length_eq_zero_iff.mp hul.symm] at this
      cases this
    · have hw2 := hperm.mem_iff.mp hw
      obtain ⟨hk, hb⟩ := List.of_mem_zip (a := w.1) (b := w.2) hw2
      obtain ⟨p, hp, e⟩ := (hm w.1).mp hk
      obtain ⟨q, hq, rfl⟩ := List.mem_map.mp hp
      have h3 := hok q hq
      have e' : q.1 = w.1 := e
      exact ⟨by rw [← e']; exact h3.1, by rw [← e']; exact h3.2.1, hbs _ hb⟩
theorem weighing_at (g : Bag) : ∃ ns g', Good ns ∧ r__law_weighing [.bag, .int 6, .int 4] g = .ok (encG ns) g' := by
  obtain ⟨v, g1, hv, hv0, hv6⟩ := draw_call (env := [some .bag, some (.int 6), some (.int 4), none, none, none, none, none, none]) (a := varE 1) (many := 6) rfl rfl (by decide) g
  have e1 : asgH [] 3 (bin2 addD (cE (.int 1)) (fnE r__law_draw (consA (varE 0) (consA (varE 1) nilA)) p__law_draw.length)) [some .bag, some (.int 6), some (.int 4), none, none, none, none, none, none] g = .ok (.nx [some .bag, some (.int 6), some (.int 4), some (.int (1 + v)), none, none, none, none, none]) g1 := asgH_at (bin2_at (x := .int 1) rfl hv rfl)
  obtain ⟨m, hm⟩ : ∃ m : Nat, (m : Int) = 1 + v := ⟨(1 + v).toNat, Int.toNat_of_nonneg (by omega)⟩
  rw [← hm] at e1
  obtain ⟨env', g2, hf, ns, x5, x6, rfl, hlen, hgood⟩ := for_run (O := [4]) (bd := nameB 5) (ρ := b_law_weighing3)
    (fun i env g => ∃ (ns : List Nd) (x5 x6 : Option D), env = [some .bag, some (.int 6), some (.int 4), some (.int m), some (.lst (ns.map encN)), x5, x6, none, none] ∧ ns.length = i ∧ ∀ n ∈ ns, GoodN m n) (rngD 0 m)
    [some .bag, some (.int 6), some (.int 4), some (.int m), some (.lst (([] : List Nd).map encN)), none, none, none, none] g1 ⟨[], none, none, rfl, rfl, fun _ h => nomatch h⟩ (by
      rintro i d env g hd ⟨ns, x5, x6, rfl, hlen, hgood⟩
      have hi : i < m := by
        have := (List.getElem?_eq_some_iff.mp hd).1
        rw [rngD_length] at this
        exact this
      obtain ⟨n, x6', g', hb, hn⟩ := weigh_node (m := m) (ns := ns) (by omega) (by omega) (by omega) (some (.int 6)) (some d) x6 none none g
      refine ⟨[(5, d)], rfl, rfl, _, g', .inl hb, ns ++ [n], some d, x6', rfl, by rw [List.length_append, List.length_singleton, hlen], fun q hq => ?_⟩
      rcases List.mem_append.mp hq with hq | hq
      · exact hgood q hq
      · rw [List.mem_singleton.mp hq]; exact hn)
  rw [rngD_length] at hlen
  refine ⟨ns, g2, ⟨by omega, by omega, fun n hn => (hgood n hn).own, fun n hn => (hgood n hn).ne, fun n hn => (hgood n hn).few, fun n hn w hw => ?_, fun n hn => (hgood n hn).srt⟩, ?_⟩
  · have := (hgood n hn).way w hw
    rw [hlen]
    exact this
  · refine fnD_ok (env := [some .bag, some (.int 6), some (.int 4), none, none, none, none, none, none]) rfl ?_
    unfold s__law_weighing
    rw [seqS_ok e1]
    have e2 : asgNH [] 4 (lstE nilA) [some .bag, some (.int 6), some (.int 4), some (.int m), none, none, none, none, none] = M.ret (.nx [some .bag, some (.int 6), some (.int 4), some (.int m), some (.lst []), none, none, none, none]) := rfl
    rw [seqS_of e2]
    have e3 : forH [4] (rng1I (consA (varE 3) nilA)) (nameB 5) b_law_weighing3 [some .bag, some (.int 6), some (.int 4), some (.int m), some (.lst []), none, none, none, none] g1 = .ok (.nx [some .bag, some (.int 6), some (.int 4), some (.int m), some (.lst (ns.map encN)), x5, x6, none, none]) g2 := by
      rw [forH_of (rng1_nat (k := m) rfl (by omega))]
      exact hf
    rw [seqS_ok e3]
    refine retS_at ?_
    have e4 : callE tupL (consA (varE 4) nilA) [some .bag, some (.int 6), some (.int 4), some (.int m), some (.lst (ns.map encN)), x5, x6, none, none] = M.ret (.tup (ns.map encN)) := call1_of (x := .lst (ns.map encN)) rfl rfl
    rw [tup2_of (x := .str "weighing") rfl e4]
    rfl
end K80

/-! K80S3: _law_case. -/
namespace K80
open PySem PySem.Spec L2 RZ VS
open PyProof.Rows hiding St

theorem consA_of {a : EX} {b : AX} {env : Slots} {x : D} {xs : List D} (h1 : a env = M.ret x) (h2 : b env = M.ret xs) : consA a b env = M.ret (x :: xs) := by
  rw [consA_eq, h1, bnd_ret, h2]
  rfl
theorem lstE_of {b : AX} {env : Slots} {xs : List D} (h2 : b env = M.ret xs) (hl : xs.length ≤ 1000) : lstE b env = M.ret (.lst xs) := by
  rw [lstE_eq, h2, bnd_ret, if_pos hl]
  rfl
theorem neVD_bb (a b : Bool) : neVD (.bl a) (.bl b) = some (.bl (!(a == b))) := by
  show (if _ then _ else _ : Option Bool).map _ = _
  rw [if_pos ⟨rfl, rfl, Nat.zero_le _⟩]
  rfl
open Classical in
theorem saved_eq {ns : List Nd} (h : Good ns) {f : Fs} (hL : Least ns (most ns) f) {k : Int} (h0 : 0 ≤ k) (h1 : k < ns.length) : r__law_is_saved [encNs ns, .int k] = M.ret (.bl (decide (at_ f k.toNat ≠ none))) := funext fun g => saved_at h hL h0 h1 g
theorem fs_ix {f : Fs} {i : Nat} (hi : i < f.length) : ixD (.tup (f.map encO)) (.int i) = some (encO (at_ f i)) := by
  have := Fd.ix (d := .tup (f.map encO)) (fs := f) (.inr rfl) (i := (i : Int)) (by omega) (by omega)
  rw [Int.toNat_natCast] at this
  exact this
theorem rng_nodes {ns : List Nd} (h : Good ns) {env : Slots} (he : varE 2 env = M.ret (encNs ns)) : rng1I (consA (callE lenL (consA (varE 2) nilA)) nilA) env = M.ret ((List.range ns.length).map fun (i : Nat) => D.int (0 + (i : Int))) := by
  have l6 := h.l6
  exact rng1_nat (k := ns.length) (call1_of he (by unfold encNs; rw [lenL_tup, List.length_map])) (by omega)
theorem case1_eq {ns : List Nd} (h : Good ns) {f : Fs} (hL : Least ns (most ns) f) (x0 x1 x4 x5 x6 x7 x8 x9 x10 x11 : Option D) :
    e_law_case1 [x0, x1, some (encNs ns), some (.tup (f.map encO)), x4, x5, x6, x7, x8, x9, x10, x11] = M.ret (.lst []) := by
  have l6 := h.l6
  unfold e_law_case1
  rw [lc_run (fun (i : Nat) => D.int (0 + (i : Int))) (fun _ => false) (fun (i : Nat) => D.int (0 + (i : Int))) (List.range ns.length) (rng_nodes h rfl) (by rw [List.length_range]; unfold line; omega) fun i hi => ⟨[(11, .int i)], by simp, ?_, fun z => by cases z⟩]
  · rw [List.filter_eq_nil_iff.mpr (by simp)]
    rfl
  · have hi2 := List.mem_range.mp hi
    show valT _ [x0, x1, some (encNs ns), some (.tup (f.map encO)), x4, x5, x6, x7, x8, x9, x10, some (.int i)] = _
    have hs := saved_eq h hL (k := (i : Int)) (by omega) (by omega)
    rw [Int.toNat_natCast] at hs
    have hx := fs_ix (f := f) (i := i) (by rw [hL.pre.len]; exact hi2)
    have h9 : fnE r__law_is_saved (consA (varE 2) (consA (varE 11) nilA)) p__law_is_saved.length [x0, x1, some (encNs ns), some (.tup (f.map encO)), x4, x5, x6, x7, x8, x9, x10, some (.int i)] = _ := fnE_of (args2 rfl rfl) rfl hs
    cases hc : at_ f i with
    | none =>
      rw [hc] at hx h9
      exact valT_of (bin2_of (x := .bl false) (bin2_of (x := .tup (f.map encO)) (y := .int i) rfl rfl hx |> fun e => bin2_of e rfl rfl) h9 (by rw [neVD_bb]; simp))
    | some c =>
      rw [hc] at hx h9
      exact valT_of (bin2_of (x := .bl true) (bin2_of (x := .tup (f.map encO)) (y := .int i) rfl rfl hx |> fun e => bin2_of e rfl rfl) h9 (by rw [neVD_bb]; simp))
theorem nodup_at {ns : List Nd} {i : Nat} (hi : i < ns.length) : ns[i]? = some ns[i] := List.getElem?_eq_getElem hi
theorem case2_eq {ns : List Nd} (h : Good ns) {f : Fs} (hl : f.length = ns.length) (x0 x1 x3 x4 x5 x7 x8 x9 x10 x11 : Option D) :
    e_law_case2 [x0, x1, some (encNs ns), x3, x4, x5, some (.tup (f.map encO)), x7, x8, x9, x10, x11] = M.ret (.lst ((ns.map fun n => due n f).map encO)) := by
  have l6 := h.l6
  unfold e_law_case2
  rw [lc_runA (fun (i : Nat) => D.int (0 + (i : Int))) (fun i => encO ((ns[i]?.map fun n => due n f).getD none)) (List.range ns.length) (rng_nodes h rfl) (by rw [List.length_range]; unfold line; omega) fun i hi => ⟨[(11, .int i)], by simp, ?_⟩]
  · have : (List.range ns.length).map (fun i => encO ((ns[i]?.map fun n => due n f).getD none)) = (ns.map fun n => due n f).map encO := by
      apply List.ext_getElem?
      intro i
      rw [List.getElem?_map, List.getElem?_map, List.getElem?_map]
      by_cases hi : i < ns.length
      · rw [List.getElem?_range hi]
        show some (encO ((ns[i]?.map fun n => due n f).getD none)) = _
        rw [nodup_at hi]
        rfl
      · rw [List.getElem?_eq_none (by rw [List.length_range]; omega), List.getElem?_eq_none (by omega)]
        rfl
    rw [this]
  · have hi2 := List.mem_range.mp hi
    show fnE _ _ _ [x0, x1, some (encNs ns), x3, x4, x5, some (.tup (f.map encO)), x7, x8, x9, x10, some (.int i)] = _
    have hm : ns[i] ∈ ns := List.getElem_mem hi2
    have h3 := h.few _ hm
    rw [nodup_at hi2]
    exact fnE_of (args2 (bin2_of (x := encNs ns) (y := .int i) rfl rfl (ix_nodes (nodup_at hi2))) rfl) rfl (law_due_eq _ (h.own _ hm) (by omega) (h.ne _ hm) _ f (.inr rfl) fun w hw => by
      have := h.way _ hm w hw
      rw [hl]
      exact ⟨this.1, this.2.1⟩)
def badAt (ns : List Nd) (f : Fs) (i : Nat) : Bool := badO (at_ f i) ((ns[i]?.map fun n => due n f).getD none)
theorem case3_eq {ns : List Nd} (h : Good ns) {f : Fs} (hl : f.length = ns.length) (x0 x1 x3 x4 x5 x8 x9 x10 x11 : Option D) :
    e_law_case3 [x0, x1, some (encNs ns), x3, x4, x5, some (.tup (f.map encO)), some (.lst ((ns.map fun n => due n f).map encO)), x8, x9, x10, x11] = M.ret (.lst (((List.range ns.length).filter (badAt ns f)).map fun (i : Nat) => D.int (0 + (i : Int)))) := by
  have l6 := h.l6
  unfold e_law_case3
  refine lc_run (fun (i : Nat) => D.int (0 + (i : Int))) (badAt ns f) (fun (i : Nat) => D.int (0 + (i : Int))) (List.range ns.length) (rng_nodes h rfl) (by rw [List.length_range]; unfold line; omega) fun i hi => ⟨[(11, .int i)], by simp, ?_, fun z => ?_⟩
  · have hi2 := List.mem_range.mp hi
    show andT _ _ [x0, x1, some (encNs ns), x3, x4, x5, some (.tup (f.map encO)), some (.lst ((ns.map fun n => due n f).map encO)), x8, x9, x10, some (.int i)] = _
    have hx := fs_ix (f := f) (i := i) (by rw [hl]; exact hi2)
    have hd : ixD (.lst ((ns.map fun n => due n f).map encO)) (.int i) = some (encO (due ns[i] f)) := by
      rw [ixD_lst, VS.atI_nat, List.getElem?_map, List.getElem?_map, nodup_at hi2]
      rfl
    have e1 : bin2 ixD (varE 6) (varE 11) [x0, x1, some (encNs ns), x3, x4, x5, some (.tup (f.map encO)), some (.lst ((ns.map fun n => due n f).map encO)), x8, x9, x10, some (.int i)] = M.ret (encO (at_ f i)) := bin2_of (x := .tup (f.map encO)) (y := .int i) rfl rfl hx
    have e2 : bin2 ixD (varE 7) (varE 11) [x0, x1, some (encNs ns), x3, x4, x5, some (.tup (f.map encO)), some (.lst ((ns.map fun n => due n f).map encO)), x8, x9, x10, some (.int i)] = M.ret (encO (due ns[i] f)) := bin2_of (x := .lst ((ns.map fun n => due n f).map encO)) (y := .int i) rfl rfl hd
    unfold badAt
    rw [nodup_at hi2, andT_eq]
    show _ = M.ret (badO (at_ f i) (due ns[i] f))
    cases hc : at_ f i with
    | none =>
      rw [hc] at e1
      rw [valT_of (bin2_of e1 rfl (show notNonD _ .non = some (.bl false) from rfl)), bnd_ret]
      rfl
    | some c =>
      rw [hc] at e1
      rw [valT_of (bin2_of e1 rfl (show notNonD _ .non = some (.bl true) from rfl)), bnd_ret, if_pos rfl, orT_eq]
      cases hu : due ns[i] f with
      | none =>
        rw [hu] at e2
        rw [valT_of (bin2_of e2 rfl (show isNonD _ .non = some (.bl true) from rfl)), bnd_ret]
        rfl
      | some u =>
        rw [hu] at e2
        rw [valT_of (bin2_of e2 rfl (show isNonD _ .non = some (.bl false) from rfl)), bnd_ret, if_neg (by decide)]
        exact valT_of (bin2_of e1 e2 (ltD_ii _ _))
  · show varE 11 [x0, x1, some (encNs ns), x3, x4, x5, some (.tup (f.map encO)), some (.lst ((ns.map fun n => due n f).map encO)), x8, x9, x10, some (.int i)] = _
    rw [Int.zero_add]
    rfl
theorem bad_any {ns : List Nd} {f : Fs} (hl : f.length = ns.length) : (((f.zip ns).any fun p => badO p.1 (due p.2 f)) = true) ↔ (List.range ns.length).filter (badAt ns f) ≠ [] := by
  rw [List.any_eq_true, ne_eq, List.filter_eq_nil_iff]
  constructor
  · rintro ⟨p, hp, hb⟩ hn
    obtain ⟨i, hi⟩ := List.mem_iff_getElem?.mp hp
    rw [List.getElem?_zip_eq_some] at hi
    have hlt := (List.getElem?_eq_some_iff.mp hi.2).1
    refine hn i (List.mem_range.mpr hlt) ?_
    unfold badAt at_
    rw [hi.2, List.getD_eq_getElem?_getD, hi.1]
    exact hb
  · intro hn
    apply Classical.byContradiction
    intro hno
    refine hn fun i hi hb => hno ?_
    have hi2 := List.mem_range.mp hi
    refine ⟨(f[i]'(by omega), ns[i]), List.mem_iff_getElem?.mpr ⟨i, ?_⟩, ?_⟩
    · rw [List.getElem?_zip_eq_some]
      exact ⟨List.getElem?_eq_getElem _, nodup_at hi2⟩
    · unfold badAt at_ at hb
      rw [nodup_at hi2, List.getD_eq_getElem?_getD, List.getElem?_eq_getElem (by omega)] at hb
      exact hb
theorem told_near {ns : List Nd} (h : Good ns) {f : Fs} (hl : f.length = ns.length) (hp : ∀ o ∈ f, okD (encO o) = true) : catchM (r_judge_energies [encG ns, .tup (f.map encO)]) = M.ret (if (List.range ns.length).filter (badAt ns f) ≠ [] then .str "due" else .non) := by
  rw [judge_fs h hl hp]
  by_cases hb : ((f.zip ns).any fun p => badO p.1 (due p.2 f)) = true
  · rw [if_pos hb, if_pos ((bad_any hl).mp hb), catch_rz 1 _ (.inr rfl)]
  · rw [if_neg hb, if_neg (fun z => hb ((bad_any hl).mpr z)), catch_ret]
/-! ### one turn with a paper near by -/
theorem cut_lo (xs : List D) (p : Nat) (hp : p ≤ xs.length) : slD (.tup xs) none (some (p : Int)) = some (.tup (xs.take p)) := by
  show some (D.tup (VS.cutD _ _ _)) = _
  unfold VS.cutD HT.sIx
  have : ¬ ((p : Int) < 0) := by omega
  simp [this]
theorem cut_hi (xs : List D) (p : Nat) (hp : p + 1 ≤ xs.length) : slD (.tup xs) (some ((p : Int) + 1)) none = some (.tup (xs.drop (p + 1))) := by
  show some (D.tup (VS.cutD _ _ _)) = _
  unfold VS.cutD HT.sIx
  have h1 : ¬ ((p : Int) + 1 < 0) := by omega
  have h2 : ((p : Int) + 1).toNat = p + 1 := by omega
  have h3 : ¬ ((p : Int) + 1 ≤ 0) := by omega
  simp [h1, h2, h3]
  rw [Nat.min_eq_left hp, List.take_of_length_le (by rw [List.length_drop]; exact Nat.le_refl _)]
theorem set_cut {α : Type} (f : List α) (p : Nat) (o : α) (hp : p < f.length) : f.take p ++ [o] ++ f.drop (p + 1) = f.set p o := by
  rw [List.set_eq_take_append_cons_drop, if_pos hp, List.append_assoc]
  rfl
theorem pick_at {b : AX} {i : EX} {env : Slots} {g g1 g2 : Bag} {xs : List D} {v : Int} {d : D} (h1 : b env g = .ok xs g1) (hl : xs.length ≤ 1000) (h2 : i env g1 = .ok (.int v) g2) (h3 : atI xs v = some d) : bin2 ixD (lstE b) i env g = .ok d g2 :=
  bin2_at (lstE_at h1 hl) h2 h3
theorem near_turn {ns : List Nd} (h : Good ns) {f : Fs} (hL : Least ns (most ns) f) (x4 x5 x6 x7 x8 x9 x10 x11 : Option D) (g : Bag) :
    ∃ y5 y6 y7 y8 g', b_law_case4 [some .bag, some (encG ns), some (encNs ns), some (.tup (f.map encO)), x4, x5, x6, x7, x8, x9, x10, x11] g = .ok (.nx [some .bag, some (encG ns), some (encNs ns), some (.tup (f.map encO)), x4, y5, y6, y7, y8, x9, x10, x11]) g' := by
  have l1 := h.l1
  have l6 := h.l6
  have hlen := hL.pre.len
  have elen : callE lenL (consA (varE 2) nilA) [some .bag, some (encG ns), some (encNs ns), some (.tup (f.map encO)), x4, x5, x6, x7, x8, x9, x10, x11] = M.ret (.int ns.length) := call1_of (x := encNs ns) rfl (by unfold encNs; rw [lenL_tup, List.length_map])
  obtain ⟨p, g1, hd, hp0, hpn⟩ := draw_call (env := [some .bag, some (encG ns), some (encNs ns), some (.tup (f.map encO)), x4, x5, x6, x7, x8, x9, x10, x11]) rfl elen (by omega) g
  obtain ⟨q, rfl⟩ : ∃ q : Nat, (q : Int) = p := ⟨p.toNat, Int.toNat_of_nonneg hp0⟩
  have hq : q < ns.length := by omega
  obtain ⟨c, g2, hc, hc0, hc9⟩ := draw_call (env := [some .bag, some (encG ns), some (encNs ns), some (.tup (f.map encO)), x4, some (.int q), x6, x7, x8, x9, x10, x11]) (a := cE (.int 9)) (many := 9) rfl rfl (by decide) g1
  obtain ⟨b, g3, hb, hb0, hb2⟩ := draw_call (env := [some .bag, some (encG ns), some (encNs ns), some (.tup (f.map encO)), x4, some (.int q), x6, x7, x8, x9, x10, x11]) (a := cE (.int 2)) (many := 2) rfl rfl (by decide) g2
  have hA : asgH [] 5 (fnE r__law_draw (consA (varE 0) (consA (callE lenL (consA (varE 2) nilA)) nilA)) p__law_draw.length) [some .bag, some (encG ns), some (encNs ns), some (.tup (f.map encO)), x4, x5, x6, x7, x8, x9, x10, x11] g = .ok (.nx [some .bag, some (encG ns), some (encNs ns), some (.tup (f.map encO)), x4, some (.int q), x6, x7, x8, x9, x10, x11]) g1 := asgH_at hd
  /- the number or None -/
  obtain ⟨o, ho, hok⟩ : ∃ o : Option Int, atI [D.non, .int c] b = some (encO o) ∧ okD (encO o) = true := by
    have : b = 0 ∨ b = 1 := by omega
    rcases this with rfl | rfl
    · exact ⟨none, rfl, rfl⟩
    · exact ⟨some c, rfl, by simpa [encO, okD] using hc0⟩
  have hpick : tupE (consA (bin2 ixD (lstE (consA (cE .non) (consA (fnE r__law_draw (consA (varE 0) (consA (cE (.int 9)) nilA)) p__law_draw.length) nilA))) (fnE r__law_draw (consA (varE 0) (consA (cE (.int 2)) nilA)) p__law_draw.length)) nilA) [some .bag, some (encG ns), some (encNs ns), some (.tup (f.map encO)), x4, some (.int q), x6, x7, x8, x9, x10, x11] g1 = .ok (.tup [encO o]) g3 :=
    tupE_at (args1_at (pick_at (consA_at (x := .non) rfl (args1_at hc)) (Nat.le_of_ble_eq_true rfl) hb ho)) (Nat.le_of_ble_eq_true rfl)
  have hlo : slE (varE 3) noP (someP (varE 5)) [some .bag, some (encG ns), some (encNs ns), some (.tup (f.map encO)), x4, some (.int q), x6, x7, x8, x9, x10, x11] = M.ret (.tup ((f.take q).map encO)) := by
    show M.ofO (slD (.tup (f.map encO)) none (some (q : Int))) = _
    rw [cut_lo _ q (by rw [List.length_map]; omega), List.map_take]
    rfl
  have hhi : slE (varE 3) (someP (bin2 addD (varE 5) (cE (.int 1)))) noP [some .bag, some (encG ns), some (encNs ns), some (.tup (f.map encO)), x4, some (.int q), x6, x7, x8, x9, x10, x11] = M.ret (.tup ((f.drop (q + 1)).map encO)) := by
    show M.ofO (slD (.tup (f.map encO)) (some ((q : Int) + 1)) none) = _
    rw [cut_hi _ q (by rw [List.length_map]; omega), List.map_drop]
    rfl
  have hB : asgH [] 6 (bin2 addD (bin2 addD (slE (varE 3) noP (someP (varE 5))) (tupE (consA (bin2 ixD (lstE (consA (cE .non) (consA (fnE r__law_draw (consA (varE 0) (consA (cE (.int 9)) nilA)) p__law_draw.length) nilA))) (fnE r__law_draw (consA (varE 0) (consA (cE (.int 2)) nilA)) p__law_draw.length)) nilA))) (slE (varE 3) (someP (bin2 addD (varE 5) (cE (.int 1)))) noP)) [some .bag, some (encG ns), some (encNs ns), some (.tup (f.map encO)), x4, some (.int q), x6, x7, x8, x9, x10, x11] g1 = .ok (.nx [some .bag, some (encG ns), some (encNs ns), some (.tup (f.map encO)), x4, some (.int q), some (.tup ((f.set q o).map encO)), x7, x8, x9, x10, x11]) g3 := by
    refine asgH_at (bin2_at (x := .tup ((f.take q ++ [o]).map encO)) (bin2_at (x := .tup ((f.take q).map encO)) (by rw [show slE _ _ _ (hide [] _) = _ from hlo]; rfl) hpick ?_) (by rw [show slE _ _ _ (hide [] _) = _ from hhi]; rfl) ?_)
    · rw [addD_tt (by rw [List.length_map, List.length_take, List.length_singleton]; unfold line; omega), List.map_append]
      rfl
    · rw [addD_tt (by rw [List.length_map, List.length_map, List.length_append, List.length_take, List.length_drop, List.length_singleton]; unfold line; omega), ← List.map_append, set_cut f q o (by omega)]
  have hl2 : (f.set q o).length = ns.length := by rw [List.length_set]; exact hlen
  have hok2 : ∀ u ∈ f.set q o, okD (encO u) = true := fun u hu => by
    rcases List.mem_or_eq_of_mem_set hu with hu | rfl
    · obtain ⟨i, hi⟩ := List.mem_iff_getElem?.mp hu
      cases u with
      | none => rfl
      | some v =>
        have : at_ f i = some v := by
          unfold at_
          rw [List.getD_eq_getElem?_getD, hi]
          rfl
        simpa [encO, okD] using hL.pre.pos i v this
    · exact hok
  generalize f.set q o = near at hB hl2 hok2
  have hC : asgH [] 7 e_law_case2 [some .bag, some (encG ns), some (encNs ns), some (.tup (f.map encO)), x4, some (.int q), some (.tup (near.map encO)), x7, x8, x9, x10, x11] = M.ret (.nx [some .bag, some (encG ns), some (encNs ns), some (.tup (f.map encO)), x4, some (.int q), some (.tup (near.map encO)), some (.lst ((ns.map fun n => due n near).map encO)), x8, x9, x10, x11]) := asgH_of (case2_eq h hl2 _ _ _ _ _ _ _ _ _ _)
  have hD : asgH [] 8 e_law_case3 [some .bag, some (encG ns), some (encNs ns), some (.tup (f.map encO)), x4, some (.int q), some (.tup (near.map encO)), some (.lst ((ns.map fun n => due n near).map encO)), x8, x9, x10, x11] = M.ret (.nx [some .bag, some (encG ns), some (encNs ns), some (.tup (f.map encO)), x4, some (.int q), some (.tup (near.map encO)), some (.lst ((ns.map fun n => due n near).map encO)), some (.lst (((List.range ns.length).filter (badAt ns near)).map fun (i : Nat) => D.int (0 + (i : Int)))), x9, x10, x11]) := asgH_of (case3_eq h hl2 _ _ _ _ _ _ _ _ _)
  refine ⟨some (.int q), some (.tup (near.map encO)), some (.lst ((ns.map fun n => due n near).map encO)), some (.lst (((List.range ns.length).filter (badAt ns near)).map fun (i : Nat) => D.int (0 + (i : Int)))), g3, ?_⟩
  unfold b_law_case4
  rw [seqS_ok hA, seqS_ok hB, seqS_of hC, seqS_of hD]
  have ht : toldE r_judge_energies (consA (varE 1) (consA (varE 6) nilA)) [some .bag, some (encG ns), some (encNs ns), some (.tup (f.map encO)), x4, some (.int q), some (.tup (near.map encO)), some (.lst ((ns.map fun n => due n near).map encO)), some (.lst (((List.range ns.length).filter (badAt ns near)).map fun (i : Nat) => D.int (0 + (i : Int)))), x9, x10, x11] = M.ret (if (List.range ns.length).filter (badAt ns near) ≠ [] then .str "due" else .non) := by
    rw [toldE_eq, args2 (x := encG ns) (y := .tup (near.map encO)) rfl rfl, bnd_ret]
    exact told_near h hl2 hok2
  have hpl : PyData.plainAll (toPys (((List.range ns.length).filter (badAt ns near)).map fun (i : Nat) => D.int (0 + (i : Int)))) = true := by
    rw [show (fun (i : Nat) => D.int (0 + (i : Int))) = D.int ∘ fun (i : Nat) => (0 + (i : Int)) from rfl, ← List.map_map]
    exact plainAll_ints _
  have hne : bin2 neVD (varE 8) (lstE nilA) [some .bag, some (encG ns), some (encNs ns), some (.tup (f.map encO)), x4, some (.int q), some (.tup (near.map encO)), some (.lst ((ns.map fun n => due n near).map encO)), some (.lst (((List.range ns.length).filter (badAt ns near)).map fun (i : Nat) => D.int (0 + (i : Int)))), x9, x10, x11] = M.ret (.bl (!decide (((List.range ns.length).filter (badAt ns near)).map (fun (i : Nat) => D.int (0 + (i : Int))) = []))) := bin2_of rfl rfl (neVD_nil hpl)
  have key : valT (bin2 neVD (toldE r_judge_energies (consA (varE 1) (consA (varE 6) nilA))) (bin2 ixD (lstE (consA (cE .non) (consA (cE (.str "due")) nilA))) (callE intL (consA (bin2 neVD (varE 8) (lstE nilA)) nilA)))) [some .bag, some (encG ns), some (encNs ns), some (.tup (f.map encO)), x4, some (.int q), some (.tup (near.map encO)), some (.lst ((ns.map fun n => due n near).map encO)), some (.lst (((List.range ns.length).filter (badAt ns near)).map fun (i : Nat) => D.int (0 + (i : Int)))), x9, x10, x11] = M.ret false := by
    by_cases hb : (List.range ns.length).filter (badAt ns near) = []
    · rw [hb] at ht hne ⊢
      rw [if_neg (by simp)] at ht
      exact valT_of (bin2_of ht (bin2_of (x := .lst [.non, .str "due"]) (y := .int 0) rfl (call1_of hne rfl) rfl) (by rw [neVD_nn]))
    · rw [if_pos hb] at ht
      have hb2 : ¬ ((List.range ns.length).filter (badAt ns near)).map (fun (i : Nat) => D.int (0 + (i : Int))) = [] := by simpa using hb
      rw [decide_eq_false hb2] at hne
      exact valT_of (bin2_of ht (bin2_of (x := .lst [.non, .str "due"]) (y := .int 1) rfl (call1_of hne rfl) rfl) (by rw [neVD_ss]; simp))
  rw [ifS_of key, if_neg (by decide)]
  rfl
end K80

/-! K80b: the walks. -/
namespace K80
open PySem PySem.Spec L2 RZ VS
open PyProof.Rows hiding St
section
variable {P : Program} {w : World} {K : PySem.W.Frag} {mg : Str → Option Value} {base : Heap}
theorem sc_ini_BadGame : FnScope ["self", "place"] ["self", "place"] (defScope st_ini_BadGame) := ⟨rfl, rfl, rfl, by decide +kernel, rfl, by decide +kernel, by decide +kernel⟩
theorem ok_ini_BadGame (D : ExcDef K mg "BadGame" "BadGame.__init__" "place" st_ini_BadGame ["self", "place"]) : FnOk P w K mg base CX0 1 D.f D.fd ["self", "place"] (spIni D.C "place") := by
  refine D.F.ok sc_ini_BadGame (fun vs H Q E h => by obtain ⟨a, y, rfl, _⟩ := h; rfl) (fun cdv A outer s H vs Q E hr h => ?_)
  obtain ⟨a, y, rfl, hH, k⟩ := h
  exact ⟨_, pss_one (ps_ost (pv 0) (pv 1)), y, rfl, .ref a, rfl, a, D.C, rfl, D.T, D.no, .inl ⟨hH, fun dx h ne => k dx h ne⟩⟩
theorem sc_ini_BadPaper : FnScope ["self", "word"] ["self", "word"] (defScope st_ini_BadPaper) := ⟨rfl, rfl, rfl, by decide +kernel, rfl, by decide +kernel, by decide +kernel⟩
theorem ok_ini_BadPaper (D : ExcDef K mg "BadPaper" "BadPaper.__init__" "word" st_ini_BadPaper ["self", "word"]) : FnOk P w K mg base CX0 1 D.f D.fd ["self", "word"] (spIni D.C "word") := by
  refine D.F.ok sc_ini_BadPaper (fun vs H Q E h => by obtain ⟨a, y, rfl, _⟩ := h; rfl) (fun cdv A outer s H vs Q E hr h => ?_)
  obtain ⟨a, y, rfl, hH, k⟩ := h
  exact ⟨_, pss_one (ps_ost (pv 0) (pv 1)), y, rfl, .ref a, rfl, a, D.C, rfl, D.T, D.no, .inl ⟨hH, fun dx h ne => k dx h ne⟩⟩
theorem sc_is_integer : FnScope n_is_integer p_is_integer (defScope st_is_integer) := ⟨rfl, rfl, rfl, by decide +kernel, rfl, by decide +kernel, by decide +kernel⟩
theorem ok_is_integer (T : Txt K mg) (β : Option Addr) : FnOk P w K mg base (L2.CX P w) 1 T.d_is_integer.f T.d_is_integer.fd p_is_integer (spV β T.xc p_is_integer.length r_is_integer) :=
  fnV (k := 0) T.d_is_integer.F sc_is_integer β T.xc s_is_integer fun cdv A outer s H E hr F => (svs_one (sv_ret (ev_and (ev_isa (.inr (.inl rfl)) (by rfl) T.b_isinstance (ev_var 0 (pv 0)) (pe_tyN (by rfl) T.b_int (by decide +kernel))) (ev_and (ev_not (ev_isa (.inl rfl) (by rfl) T.b_isinstance (ev_var 0 (pv 0)) (pe_tyN (by rfl) T.b_bool (by decide +kernel)))) (ev_one (ev_chain (.inr (.inl rfl)) (.inr (.inl rfl)) (ev_var 1 (pv 1)) (ev_var 0 (pv 0)) (ev_var 2 (pv 2))))))))
theorem sc_is_way : FnScope n_is_way p_is_way (defScope st_is_way) := ⟨rfl, rfl, rfl, by decide +kernel, rfl, by decide +kernel, by decide +kernel⟩
theorem ok_is_way (T : Txt K mg) (β : Option Addr) : FnOk P w K mg base (L2.CX P w) 2 T.d_is_way.f T.d_is_way.fd p_is_way (spV β T.xc p_is_way.length r_is_way) :=
  fnV (k := 1) T.d_is_way.F sc_is_way β T.xc s_is_way fun cdv A outer s H E hr F => (svs_cons (O1 := []) (sv_if (O := []) (O' := []) (TW.tv (tw_or (tv_not (tv_val (ev_isa (.inr (.inr (.inr (.inl rfl)))) (by rfl) T.b_isinstance (ev_var 0 (pv 0)) (pe_tyN (by rfl) T.b_tuple (by decide +kernel))))) (tw_or1 (tv_cmp (o_ne (Room.vs hr)) (ev_callB o_len (by rfl) T.b_len (by decide +kernel) (av_cons (ev_var 0 (pv 0)) av_nil)) ev_int (nomark _))))) (svs_one (sv_ret ev_bl)) svs_nil) (svs_one (sv_ret (ev_and (ev_callC (ok_is_integer T β) (hr.mono (by decide)) (by rfl) T.d_is_integer.m T.d_is_integer.k T.d_is_integer.b (av_cons (ev_ix (ev_var 0 (pv 0)) ev_int) (av_cons ev_int (av_cons (ev_bin o_sub (ev_var 1 (pv 1)) ev_int) av_nil)))) (ev_one (ev_callC (ok_is_integer T β) (hr.mono (by decide)) (by rfl) T.d_is_integer.m T.d_is_integer.k T.d_is_integer.b (av_cons (ev_ix (ev_var 0 (pv 0)) ev_int) (av_cons (ev_un o_neg (ev_gint (by rfl) T.g_MOST_WEIGHT)) (av_cons (ev_gint (by rfl) T.g_MOST_WEIGHT) av_nil)))))))))
theorem sc_is_weighing : FnScope n_is_weighing p_is_weighing (defScope st_is_weighing) := ⟨rfl, rfl, rfl, by decide +kernel, rfl, by decide +kernel, by decide +kernel⟩
theorem ok_is_weighing (T : Txt K mg) (β : Option Addr) : FnOk P w K mg base (L2.CX P w) 3 T.d_is_weighing.f T.d_is_weighing.fd p_is_weighing (spV β T.xc p_is_weighing.length r_is_weighing) :=
  fnV (k := 2) T.d_is_weighing.F sc_is_weighing β T.xc s_is_weighing fun cdv A outer s H E hr F => (svs_cons (O1 := []) (sv_if (O := []) (O' := []) (TW.tv (tw_or (tv_not (tv_val (ev_isa (.inr (.inr (.inr (.inl rfl)))) (by rfl) T.b_isinstance (ev_var 0 (pv 0)) (pe_tyN (by rfl) T.b_tuple (by decide +kernel))))) (tw_or (tv_cmp (o_ne (Room.vs hr)) (ev_callB o_len (by rfl) T.b_len (by decide +kernel) (av_cons (ev_var 0 (pv 0)) av_nil)) ev_int (nomark _)) (tw_or (tv_cmp (o_ne (Room.vs hr)) (ev_ix (ev_var 0 (pv 0)) ev_int) ev_str (nomark _)) (tw_or1 (tv_not (tv_val (ev_isa (.inr (.inr (.inr (.inl rfl)))) (by rfl) T.b_isinstance (ev_ix (ev_var 0 (pv 0)) ev_int) (pe_tyN (by rfl) T.b_tuple (by decide +kernel)))))))))) (svs_one (sv_ret ev_bl)) svs_nil) (svs_cons (O1 := []) (sv_asgH (O := []) (O' := []) (i := 1) (ps_set (i := 1) sc_is_weighing.nd (by rfl) (by first | exact Or.inl rfl | exact Or.inr rfl) (ev_callB o_len (by rfl) T.b_len (by decide +kernel) (av_cons (ev_ix (ev_var 0 (pv 0)) ev_int) av_nil))) red_ev (oset rfl) (by decide)) (svs_cons (O1 := []) (sv_if (O := []) (O' := []) (tv_not (tv_chain (.inr (.inl rfl)) (.inr (.inl rfl)) ev_int (ev_var 1 (pv 1)) (ev_gint (by rfl) T.g_MOST_WEIGHED))) (svs_one (sv_ret ev_bl)) svs_nil) (svs_cons (O1 := []) (sv_forH (O := []) (passes_of (by rfl)) (by rfl) (iv_seq (ev_ix (ev_var 0 (pv 0)) ev_int)) (bv_name (pg_name (i := 2) sc_is_weighing.nd (by rfl) (by first | exact Or.inl rfl | exact Or.inr rfl))) (ρb := b_is_weighing3) (svs_weak (O1 := []) (O2 := []) (svs_cons (O1 := []) (sv_if (O := []) (O' := []) (TW.tv (tw_or (tv_not (tv_val (ev_isa (.inr (.inr (.inr (.inl rfl)))) (by rfl) T.b_isinstance (ev_var 2 (pv 2)) (pe_tyN (by rfl) T.b_tuple (by decide +kernel))))) (tw_or (tv_cmp (o_ne (Room.vs hr)) (ev_callB o_len (by rfl) T.b_len (by decide +kernel) (av_cons (ev_var 2 (pv 2)) av_nil)) ev_int (nomark _)) (tw_or1 (tv_not (tv_val (ev_callC (ok_is_integer T β) (hr.mono (by decide)) (by rfl) T.d_is_integer.m T.d_is_integer.k T.d_is_integer.b (av_cons (ev_ix (ev_var 2 (pv 2)) ev_int) (av_cons ev_int (av_cons ev_int av_nil)))))))))) (svs_one (sv_ret ev_bl)) svs_nil) (svs_cons (O1 := []) (sv_if (O := []) (O' := []) (TW.tv (tw_or (tv_not (tv_val (ev_isa (.inr (.inr (.inr (.inl rfl)))) (by rfl) T.b_isinstance (ev_ix (ev_var 2 (pv 2)) ev_int) (pe_tyN (by rfl) T.b_tuple (by decide +kernel))))) (tw_or (tv_cmp (o_eq (Room.vs hr)) (ev_callB o_len (by rfl) T.b_len (by decide +kernel) (av_cons (ev_ix (ev_var 2 (pv 2)) ev_int) av_nil)) ev_int (nomark _)) (tw_or1 (tv_not (tv_val (ev_callB (o_all (by rfl)) (by rfl) T.b_all (by decide +kernel) (av_cons (ev_lc (own := [("way", 3)]) (by rfl) sc_is_weighing.nd (iv_seq (ev_ix (ev_var 2 (pv 2)) ev_int)) (blkOk_by (N := n_is_weighing) (sc := defScope st_is_weighing) (own := [("way", 3)]) (by decide +kernel)) (fun _ _ _ _ _ => (bv_name (pg_name (i := 3) sc_is_weighing.nd (by rfl) (by first | exact Or.inl rfl | exact Or.inr rfl)))) (fun _ _ _ _ _ => tvs_nil) (fun _ _ _ _ _ => (ev_callC (ok_is_way T β) (hr.mono (by decide)) (by rfl) T.d_is_way.m T.d_is_way.k T.d_is_way.b (av_cons (ev_var 3 (pv 3)) (av_cons (ev_var 1 (pv 1)) av_nil)))) (sub_name (by decide))) av_nil)))))))) (svs_one (sv_ret ev_bl)) svs_nil) (svs_one (sv_if (O := []) (O' := []) (tv_not (tv_val (ev_callB (o_all (by rfl)) (by rfl) T.b_all (by decide +kernel) (av_cons (ev_lc (own := [("one", 4), ("other", 5)]) (by rfl) sc_is_weighing.nd (iv_zip (by rfl) T.b_zip (av_cons (ev_ix (ev_var 2 (pv 2)) ev_int) (av_cons (ev_slice (ev_ix (ev_var 2 (pv 2)) ev_int) (pv_some ev_int) pv_none) av_nil))) (blkOk_by (N := n_is_weighing) (sc := defScope st_is_weighing) (own := [("one", 4), ("other", 5)]) (by decide +kernel)) (fun _ _ _ _ _ => (bv_tup (by rfl) (bvs_cons (bv_name (pg_name (i := 4) sc_is_weighing.nd (by rfl) (by first | exact Or.inl rfl | exact Or.inr rfl))) (bvs_cons (bv_name (pg_name (i := 5) sc_is_weighing.nd (by rfl) (by first | exact Or.inl rfl | exact Or.inr rfl))) bvs_nil)))) (fun _ _ _ _ _ => tvs_nil) (fun _ _ _ _ _ => (ev_cmp o_lt (ev_ix (ev_var 4 (pv 4)) ev_int) (ev_ix (ev_var 5 (pv 5)) ev_int) (nomark _))) (sub_tup (subs_cons (sub_name (by decide)) (subs_cons (sub_name (by decide)) subs_nil)))) av_nil)))) (svs_one (sv_ret ev_bl)) svs_nil)))) (osub rfl) (osub rfl))) (svs_one (sv_ret ev_bl))))))
theorem sc_look_at : FnScope n_look_at p_look_at (defScope st_look_at) := ⟨rfl, rfl, rfl, by decide +kernel, rfl, by decide +kernel, by decide +kernel⟩
theorem ok_look_at (T : Txt K mg) (β : Option Addr) : FnOk P w K mg base (L2.CX P w) 4 T.d_look_at.f T.d_look_at.fd p_look_at (spV β T.xc p_look_at.length r_look_at) :=
  fnV (k := 3) T.d_look_at.F sc_look_at β T.xc s_look_at fun cdv A outer s H E hr F => (svs_weak (O1 := []) (O2 := []) (svs_one (sv_if (O := []) (O' := []) (tv_not (tv_val (ev_callC (ok_is_weighing T β) (hr.mono (by decide)) (by rfl) T.d_is_weighing.m T.d_is_weighing.k T.d_is_weighing.b (av_cons (ev_var 0 (pv 0)) av_nil)))) (svs_one (sv_raise (c := 0) (ps_raise (by rfl) (takes_of (by rfl) (by rfl) (by rfl) (by rfl)) (pmk_oex T.x_BadGame.T T.x_BadGame.i T.x_BadGame.t (ok_ini_BadGame T.x_BadGame) (hr.mono (by decide)) T.x_BadGame.b .nil pass0 (by rfl) T.x_BadGame.m (pa_cons ev_int pa_nil))) red_ev (by rfl))) svs_nil)) (osub rfl) (osub rfl))
theorem sc_due_of : FnScope n_due_of p_due_of (defScope st_due_of) := ⟨rfl, rfl, rfl, by decide +kernel, rfl, by decide +kernel, by decide +kernel⟩
theorem ok_due_of (T : Txt K mg) (β : Option Addr) : FnOk P w K mg base (L2.CX P w) 1 T.d_due_of.f T.d_due_of.fd p_due_of (spV β T.xc p_due_of.length r_due_of) :=
  fnV (k := 0) T.d_due_of.F sc_due_of β T.xc s_due_of fun cdv A outer s H E hr F => (svs_cons (O1 := []) (sv_unpH (O := []) (ps_asg (ev_var 0 (pv 0)) (bv_tup (by rfl) (bvs_cons (bv_name (pg_name (i := 2) sc_due_of.nd (by rfl) (by first | exact Or.inl rfl | exact Or.inr rfl))) (bvs_cons (bv_name (pg_name (i := 3) sc_due_of.nd (by rfl) (by first | exact Or.inl rfl | exact Or.inr rfl))) bvs_nil)))) red_ev) (svs_cons (O1 := []) (sv_asgH (O := []) (O' := []) (i := 4) (ps_setLc (i := 4) (own := [("to", 5), ("weight", 6)]) (by rfl) sc_due_of.nd (by rfl) (by rfl) (sw_true (by rfl) (by rfl) (by rfl) (by decide +kernel)) (iv_seq (ev_var 3 (pv 3))) (blkOk_by (N := n_due_of) (sc := defScope st_due_of) (own := [("to", 5), ("weight", 6)]) (by decide +kernel)) (fun _ _ _ _ _ => (bv_tup (by rfl) (bvs_cons (bv_name (pg_name (i := 5) sc_due_of.nd (by rfl) (by first | exact Or.inl rfl | exact Or.inr rfl))) (bvs_cons (bv_name (pg_name (i := 6) sc_due_of.nd (by rfl) (by first | exact Or.inl rfl | exact Or.inr rfl))) bvs_nil)))) (fun _ _ _ _ _ => (tvs_one (tv_cmp o_notN (ev_ix (ev_var 1 (pv 1)) (ev_var 5 (pv 5))) ev_non (nomark _)))) (fun _ _ _ _ _ => (ev_callB (o_max (by rfl)) (by rfl) T.b_max (by decide +kernel) (av_cons ev_int (av_cons (ev_bin o_sub (ev_ix (ev_var 1 (pv 1)) (ev_var 5 (pv 5))) (ev_var 6 (pv 6))) av_nil))))) (red_lc (sub_tup (subs_cons (sub_name (by decide)) (subs_cons (sub_name (by decide)) subs_nil)))) (oset rfl) (by decide)) (svs_cons (O1 := []) (sv_if (O := []) (O' := []) (tv_cmp (o_eq (Room.vs hr)) (ev_var 2 (pv 2)) ev_int (nomark _)) (svs_cons (O1 := []) (sv_if (O := []) (O' := []) (tv_cmp (o_eq (Room.vs hr)) (ev_callB o_len (by rfl) T.b_len (by decide +kernel) (av_cons (ev_var 4 (pv 4)) av_nil)) ev_int (nomark _)) (svs_one (sv_ret ev_non)) svs_nil) (svs_one (sv_ret (ev_callB (o_min (by rfl) (Room.vs hr)) (by rfl) T.b_min (by decide +kernel) (av_cons (ev_var 4 (pv 4)) av_nil))))) svs_nil) (svs_cons (O1 := []) (sv_if (O := []) (O' := []) (tv_cmp o_lt (ev_callB o_len (by rfl) T.b_len (by decide +kernel) (av_cons (ev_var 4 (pv 4)) av_nil)) (ev_callB o_len (by rfl) T.b_len (by decide +kernel) (av_cons (ev_var 3 (pv 3)) av_nil)) (nomark _)) (svs_one (sv_ret ev_non)) svs_nil) (svs_one (sv_ret (ev_callB (o_max (by rfl)) (by rfl) T.b_max (by decide +kernel) (av_cons (ev_var 4 (pv 4)) av_nil))))))))
theorem sc_credits_of : FnScope n_credits_of p_credits_of (defScope st_credits_of) := ⟨rfl, rfl, rfl, by decide +kernel, rfl, by decide +kernel, by decide +kernel⟩
theorem ok_credits_of (T : Txt K mg) (β : Option Addr) : FnOk P w K mg base (L2.CX P w) 2 T.d_credits_of.f T.d_credits_of.fd p_credits_of (spV β T.xc p_credits_of.length r_credits_of) :=
  fnV (k := 1) T.d_credits_of.F sc_credits_of β T.xc s_credits_of fun cdv A outer s H E hr F => (svs_cons (O1 := []) (sv_asgH (O := []) (O' := []) (i := 1) (ps_set (i := 1) sc_credits_of.nd (by rfl) (by first | exact Or.inl rfl | exact Or.inr rfl) (ev_callB (o_sum (by rfl)) (by rfl) T.b_sum (by decide +kernel) (av_cons (ev_lc (own := [("_", 7), ("ways", 8)]) (by rfl) sc_credits_of.nd (iv_seq (ev_var 0 (pv 0))) (blkOk_by (N := n_credits_of) (sc := defScope st_credits_of) (own := [("_", 7), ("ways", 8)]) (by decide +kernel)) (fun _ _ _ _ _ => (bv_tup (by rfl) (bvs_cons (bv_name (pg_name (i := 7) sc_credits_of.nd (by rfl) (by first | exact Or.inl rfl | exact Or.inr rfl))) (bvs_cons (bv_name (pg_name (i := 8) sc_credits_of.nd (by rfl) (by first | exact Or.inl rfl | exact Or.inr rfl))) bvs_nil)))) (fun _ _ _ _ _ => tvs_nil) (fun _ _ _ _ _ => (ev_callB (o_max (by rfl)) (by rfl) T.b_max (by decide +kernel) (av_cons (ev_bin o_add (ev_lst (av_cons ev_int av_nil)) (ev_lc (own := [("_", 7), ("weight", 9)]) (by rfl) sc_credits_of.nd (iv_seq (ev_var 8 (pv 8))) (blkOk_by (N := n_credits_of) (sc := { kind := .function, names := [(PySem.Str.ofString ".0", .local), (PySem.Str.ofString "_", .local), (PySem.Str.ofString "ways", .local), (PySem.Str.ofString "max", .globalImplicit)], isGenerator := false, isCoroutine := false, more := [] }) (own := [("_", 7), ("weight", 9)]) (by decide +kernel)) (fun _ _ _ _ _ => (bv_tup (by rfl) (bvs_cons (bv_name (pg_name (i := 7) sc_credits_of.nd (by rfl) (by first | exact Or.inl rfl | exact Or.inr rfl))) (bvs_cons (bv_name (pg_name (i := 9) sc_credits_of.nd (by rfl) (by first | exact Or.inl rfl | exact Or.inr rfl))) bvs_nil)))) (fun _ _ _ _ _ => tvs_nil) (fun _ _ _ _ _ => (ev_un o_neg (ev_var 9 (pv 9)))) (sub_tup (subs_cons (sub_name (by decide)) (subs_cons (sub_name (by decide)) subs_nil))))) av_nil))) (sub_tup (subs_cons (sub_name (by decide)) (subs_cons (sub_name (by decide)) subs_nil)))) av_nil))) red_ev (oset rfl) (by decide)) (svs_cons (O1 := [2]) (sv_asgNH (O := []) (O' := [2]) (i := 2) (ps_set (i := 2) sc_credits_of.nd (by rfl) (by first | exact Or.inl rfl | exact Or.inr rfl) (evn_bin o_mulN (ev_lst (av_cons ev_int av_nil)) (ev_callB o_len (by rfl) T.b_len (by decide +kernel) (av_cons (ev_var 0 (pv 0)) av_nil)))) redN_ev (oset rfl) (by decide)) (svs_cons (O1 := [2]) (sv_asgH (O := [2]) (O' := [2]) (i := 3) (ps_set (i := 3) sc_credits_of.nd (by rfl) (by first | exact Or.inl rfl | exact Or.inr rfl) ev_bl) red_ev (oset rfl) (by decide)) (svs_cons (O1 := [2]) (sv_while (O := [2]) (passes_of (by rfl)) (tv_val (ev_var 3 (pv 3))) (ρb := b_credits_of4) (svs_weak (O1 := [2]) (O2 := [2]) (svs_cons (O1 := [2]) (sv_asgH (O := [2]) (O' := [2]) (i := 3) (ps_set (i := 3) sc_credits_of.nd (by rfl) (by first | exact Or.inl rfl | exact Or.inr rfl) ev_bl) red_ev (oset rfl) (by decide)) (svs_one (sv_forH (O := [2]) (passes_of (by rfl)) (by rfl) (iv_enumT (by rfl) T.b_enumerate (av_cons (ev_var 0 (pv 0)) av_nil)) (bv_tup (by rfl) (bvs_cons (bv_name (pg_name (i := 4) sc_credits_of.nd (by rfl) (by first | exact Or.inl rfl | exact Or.inr rfl))) (bvs_cons (bv_name (pg_name (i := 5) sc_credits_of.nd (by rfl) (by first | exact Or.inl rfl | exact Or.inr rfl))) bvs_nil))) (ρb := b_credits_of3) (svs_weak (O1 := [2]) (O2 := [2]) (svs_one (sv_if (O := [2]) (O' := [2]) (tv_cmp o_notN (ev_ix (ev_var 2 (pv 2)) (ev_var 4 (pv 4))) ev_non (nomark _)) (svs_cons (O1 := [2]) (sv_asgF (O := [2]) (O' := [2]) (i := 6) (ps_set (i := 6) sc_credits_of.nd (by rfl) (by first | exact Or.inl rfl | exact Or.inr rfl) (ev_callC (ok_due_of T β) (hr.mono (by decide)) (by rfl) T.d_due_of.m T.d_due_of.k T.d_due_of.b (av_cons (ev_var 5 (pv 5)) (av_cons (ev_var 2 (pv 2)) av_nil)))) red_ev (oset rfl)) (svs_one (sv_if (O := [2]) (O' := [2]) (TW.tv (tw_or (tv_cmp o_isN (ev_var 6 (pv 6)) ev_non (nomark _)) (tw_or1 (tv_cmp o_gt (ev_var 6 (pv 6)) (ev_var 1 (pv 1)) (nomark _))))) (svs_cons (O1 := [2]) (sv_stoH (O := [2]) (i := 2) (ps_asg ev_non (pg_sub (pv 2) (ev_var 4 (pv 4)) set_list)) red_ev red_ev (by decide)) (svs_one (sv_asgH (O := [2]) (O' := [2]) (i := 3) (ps_set (i := 3) sc_credits_of.nd (by rfl) (by first | exact Or.inl rfl | exact Or.inr rfl) ev_bl) red_ev (oset rfl) (by decide)))) (svs_one (sv_if (O := [2]) (O' := [2]) (tv_cmp o_gt (ev_var 6 (pv 6)) (ev_ix (ev_var 2 (pv 2)) (ev_var 4 (pv 4))) (nomark _)) (svs_cons (O1 := [2]) (sv_stoH (O := [2]) (i := 2) (ps_asg (ev_var 6 (pv 6)) (pg_sub (pv 2) (ev_var 4 (pv 4)) set_list)) red_ev red_ev (by decide)) (svs_one (sv_asgH (O := [2]) (O' := [2]) (i := 3) (ps_set (i := 3) sc_credits_of.nd (by rfl) (by first | exact Or.inl rfl | exact Or.inr rfl) ev_bl) red_ev (oset rfl) (by decide)))) svs_nil))))) svs_nil)) (osub rfl) (osub rfl))))) (osub rfl) (osub rfl))) (svs_one (sv_ret (ev_callTy o_tup (by rfl) T.b_tuple (by decide +kernel) (av_cons (ev_var 2 (pv 2)) av_nil))))))))
theorem sc_energies : FnScope n_energies p_energies (defScope st_energies) := ⟨rfl, rfl, rfl, by decide +kernel, rfl, by decide +kernel, by decide +kernel⟩
theorem ok_energies (T : Txt K mg) (β : Option Addr) : FnOk P w K mg base (L2.CX P w) 5 T.d_energies.f T.d_energies.fd p_energies (spV β T.xc p_energies.length r_energies) :=
  fnV (k := 4) T.d_energies.F sc_energies β T.xc s_energies fun cdv A outer s H E hr F => (svs_cons (O1 := []) (sv_expr (ev_callX (ok_look_at T β) (takes_of (by rfl) (by rfl) (by rfl) (by rfl)) (hr.mono (by decide)) (by rfl) T.d_look_at.m T.d_look_at.k T.d_look_at.b (av_cons (ev_var 0 (pv 0)) av_nil))) (svs_one (sv_ret (ev_callC (ok_credits_of T β) (hr.mono (by decide)) (by rfl) T.d_credits_of.m T.d_credits_of.k T.d_credits_of.b (av_cons (ev_ix (ev_var 0 (pv 0)) ev_int) av_nil)))))
theorem sc_judge_energies : FnScope n_judge_energies p_judge_energies (defScope st_judge_energies) := ⟨rfl, rfl, rfl, by decide +kernel, rfl, by decide +kernel, by decide +kernel⟩
theorem ok_judge_energies (T : Txt K mg) (β : Option Addr) : FnOk P w K mg base (L2.CX P w) 5 T.d_judge_energies.f T.d_judge_energies.fd p_judge_energies (spV β T.xc p_judge_energies.length r_judge_energies) :=
  fnV (k := 4) T.d_judge_energies.F sc_judge_energies β T.xc s_judge_energies fun cdv A outer s H E hr F => (svs_weak (O1 := []) (O2 := []) (svs_cons (O1 := []) (sv_expr (ev_callX (ok_look_at T β) (takes_of (by rfl) (by rfl) (by rfl) (by rfl)) (hr.mono (by decide)) (by rfl) T.d_look_at.m T.d_look_at.k T.d_look_at.b (av_cons (ev_var 0 (pv 0)) av_nil))) (svs_cons (O1 := []) (sv_if (O := []) (O' := []) (TW.tv (tw_or (tv_not (tv_val (ev_isa (.inr (.inr (.inr (.inl rfl)))) (by rfl) T.b_isinstance (ev_var 1 (pv 1)) (pe_tyN (by rfl) T.b_tuple (by decide +kernel))))) (tw_or1 (tv_cmp (o_ne (Room.vs hr)) (ev_callB o_len (by rfl) T.b_len (by decide +kernel) (av_cons (ev_var 1 (pv 1)) av_nil)) (ev_callB o_len (by rfl) T.b_len (by decide +kernel) (av_cons (ev_ix (ev_var 0 (pv 0)) ev_int) av_nil)) (nomark _))))) (svs_one (sv_raise (c := 1) (ps_raise (by rfl) (takes_of (by rfl) (by rfl) (by rfl) (by rfl)) (pmk_oex T.x_BadPaper.T T.x_BadPaper.i T.x_BadPaper.t (ok_ini_BadPaper T.x_BadPaper) (hr.mono (by decide)) T.x_BadPaper.b .nil pass0 (by rfl) T.x_BadPaper.m (pa_cons ev_str pa_nil))) red_ev (by rfl))) svs_nil) (svs_cons (O1 := []) (sv_if (O := []) (O' := []) (tv_not (tv_val (ev_callB (o_all (by rfl)) (by rfl) T.b_all (by decide +kernel) (av_cons (ev_lc (own := [("one", 2)]) (by rfl) sc_judge_energies.nd (iv_seq (ev_var 1 (pv 1))) (blkOk_by (N := n_judge_energies) (sc := defScope st_judge_energies) (own := [("one", 2)]) (by decide +kernel)) (fun _ _ _ _ _ => (bv_name (pg_name (i := 2) sc_judge_energies.nd (by rfl) (by first | exact Or.inl rfl | exact Or.inr rfl)))) (fun _ _ _ _ _ => tvs_nil) (fun _ _ _ _ _ => (ev_or (ev_cmp o_isN (ev_var 2 (pv 2)) ev_non (nomark _)) (ev_one (ev_and (ev_isa (.inr (.inl rfl)) (by rfl) T.b_isinstance (ev_var 2 (pv 2)) (pe_tyN (by rfl) T.b_int (by decide +kernel))) (ev_and (ev_not (ev_isa (.inl rfl) (by rfl) T.b_isinstance (ev_var 2 (pv 2)) (pe_tyN (by rfl) T.b_bool (by decide +kernel)))) (ev_one (ev_cmp o_ge (ev_var 2 (pv 2)) ev_int (nomark _)))))))) (sub_name (by decide))) av_nil)))) (svs_one (sv_raise (c := 1) (ps_raise (by rfl) (takes_of (by rfl) (by rfl) (by rfl) (by rfl)) (pmk_oex T.x_BadPaper.T T.x_BadPaper.i T.x_BadPaper.t (ok_ini_BadPaper T.x_BadPaper) (hr.mono (by decide)) T.x_BadPaper.b .nil pass0 (by rfl) T.x_BadPaper.m (pa_cons ev_str pa_nil))) red_ev (by rfl))) svs_nil) (svs_one (sv_forH (O := []) (passes_of (by rfl)) (by rfl) (iv_zip (by rfl) T.b_zip (av_cons (ev_var 1 (pv 1)) (av_cons (ev_ix (ev_var 0 (pv 0)) ev_int) av_nil))) (bv_tup (by rfl) (bvs_cons (bv_name (pg_name (i := 2) sc_judge_energies.nd (by rfl) (by first | exact Or.inl rfl | exact Or.inr rfl))) (bvs_cons (bv_name (pg_name (i := 3) sc_judge_energies.nd (by rfl) (by first | exact Or.inl rfl | exact Or.inr rfl))) bvs_nil))) (ρb := b_judge_energies2) (svs_weak (O1 := []) (O2 := []) (svs_cons (O1 := []) (sv_asgH (O := []) (O' := []) (i := 4) (ps_set (i := 4) sc_judge_energies.nd (by rfl) (by first | exact Or.inl rfl | exact Or.inr rfl) (ev_callC (ok_due_of T β) (hr.mono (by decide)) (by rfl) T.d_due_of.m T.d_due_of.k T.d_due_of.b (av_cons (ev_var 3 (pv 3)) (av_cons (ev_var 1 (pv 1)) av_nil)))) red_ev (oset rfl) (by decide)) (svs_one (sv_if (O := []) (O' := []) (TW.tv (tw_and (tv_cmp o_notN (ev_var 2 (pv 2)) ev_non (nomark _)) (tw_and1 (TW.tv (tw_or (tv_cmp o_isN (ev_var 4 (pv 4)) ev_non (nomark _)) (tw_or1 (tv_cmp o_lt (ev_var 2 (pv 2)) (ev_var 4 (pv 4)) (nomark _)))))))) (svs_one (sv_raise (c := 1) (ps_raise (by rfl) (takes_of (by rfl) (by rfl) (by rfl) (by rfl)) (pmk_oex T.x_BadPaper.T T.x_BadPaper.i T.x_BadPaper.t (ok_ini_BadPaper T.x_BadPaper) (hr.mono (by decide)) T.x_BadPaper.b .nil pass0 (by rfl) T.x_BadPaper.m (pa_cons ev_str pa_nil))) red_ev (by rfl))) svs_nil))) (osub rfl) (osub rfl))))))) (osub rfl) (osub rfl))
theorem sc__law_draw : FnScope n__law_draw p__law_draw (defScope st__law_draw) := ⟨rfl, rfl, rfl, by decide +kernel, rfl, by decide +kernel, by decide +kernel⟩
theorem ok__law_draw (T : Txt K mg) (β : Option Addr) : FnOk P w K mg base (L2.CX P w) 1 T.d__law_draw.f T.d__law_draw.fd p__law_draw (spV β T.xc p__law_draw.length r__law_draw) :=
  fnV (k := 0) T.d__law_draw.F sc__law_draw β T.xc s__law_draw fun cdv A outer s H E hr F => (svs_cons (O1 := []) (sv_if (O := []) (O' := []) (tv_cmp (o_eq (Room.vs hr)) (ev_bagix (ev_var 0 (pv 0))) ev_int (nomark _)) (svs_cons (O1 := []) (sv_asgH (O := []) (O' := []) (i := 2) (ps_set (i := 2) sc__law_draw.nd (by rfl) (by first | exact Or.inl rfl | exact Or.inr rfl) (ev_bin o_mod (ev_callTy o_int (by rfl) T.b_int (by decide +kernel) (av_cons (ev_bin o_add (ev_bin o_add (ev_bin o_mul (ev_bagix (ev_var 0 (pv 0))) ev_int) (ev_bin o_mul (ev_bagix (ev_var 0 (pv 0))) ev_int)) ev_int) av_nil)) ev_int)) red_ev (oset rfl) (by decide)) (svs_cons (O1 := []) (sv_bag (ps_asg (ev_bin o_add (ev_bin o_mul (ev_var 2 (pv 2)) ev_int) (ev_bin o_mod (ev_callTy o_int (by rfl) T.b_int (by decide +kernel) (av_cons (ev_bin o_add (ev_bin o_mul (ev_var 2 (pv 2)) (ev_var 2 (pv 2))) (ev_bin o_mul (ev_bagix (ev_var 0 (pv 0))) ev_int)) av_nil)) ev_int)) (pg_sub (pv 0) pe_int set_list)) red_ev) (svs_one (sv_bag (ps_asg (ev_var 2 (pv 2)) (pg_sub (pv 0) pe_int set_list)) red_ev)))) svs_nil) (svs_cons (O1 := []) (sv_asgH (O := []) (O' := []) (i := 3) (ps_set (i := 3) sc__law_draw.nd (by rfl) (by first | exact Or.inl rfl | exact Or.inr rfl) (ev_bagix (ev_var 0 (pv 0)))) red_ev (oset rfl) (by decide)) (svs_cons (O1 := []) (sv_bag (ps_asg (ev_bin o_div (ev_var 3 (pv 3)) (ev_var 1 (pv 1))) (pg_sub (pv 0) pe_int set_list)) red_ev) (svs_one (sv_ret (ev_bin o_mod (ev_callTy o_int (by rfl) T.b_int (by decide +kernel) (av_cons (ev_var 3 (pv 3)) av_nil)) (ev_var 1 (pv 1))))))))
theorem sc__law_weighing : FnScope n__law_weighing p__law_weighing (defScope st__law_weighing) := ⟨rfl, rfl, rfl, by decide +kernel, rfl, by decide +kernel, by decide +kernel⟩
theorem ok__law_weighing (T : Txt K mg) (β : Option Addr) : FnOk P w K mg base (L2.CX P w) 2 T.d__law_weighing.f T.d__law_weighing.fd p__law_weighing (spV β T.xc p__law_weighing.length r__law_weighing) :=
  fnV (k := 1) T.d__law_weighing.F sc__law_weighing β T.xc s__law_weighing fun cdv A outer s H E hr F => (svs_cons (O1 := []) (sv_asgH (O := []) (O' := []) (i := 3) (ps_set (i := 3) sc__law_weighing.nd (by rfl) (by first | exact Or.inl rfl | exact Or.inr rfl) (ev_bin o_add ev_int (ev_callC (ok__law_draw T β) (hr.mono (by decide)) (by rfl) T.d__law_draw.m T.d__law_draw.k T.d__law_draw.b (av_cons (ev_var 0 (pv 0)) (av_cons (ev_var 1 (pv 1)) av_nil))))) red_ev (oset rfl) (by decide)) (svs_cons (O1 := [4]) (sv_asgNH (O := []) (O' := [4]) (i := 4) (ps_set (i := 4) sc__law_weighing.nd (by rfl) (by first | exact Or.inl rfl | exact Or.inr rfl) (evn_lst av_nil)) redN_ev (oset rfl) (by decide)) (svs_cons (O1 := [4]) (sv_forH (O := [4]) (passes_of (by rfl)) (by rfl) (iv_range1 (by rfl) T.b_range (av_cons (ev_var 3 (pv 3)) av_nil)) (bv_name (pg_name (i := 5) sc__law_weighing.nd (by rfl) (by first | exact Or.inl rfl | exact Or.inr rfl))) (ρb := b_law_weighing3) (svs_weak (O1 := [4]) (O2 := [4]) (svs_cons (O1 := [4]) (sv_asgH (O := [4]) (O' := [4]) (i := 6) (ps_set (i := 6) sc__law_weighing.nd (by rfl) (by first | exact Or.inl rfl | exact Or.inr rfl) (ev_callTy (OpLN.ol (o_dict (by rfl))) (by rfl) T.b_dict (by decide +kernel) (av_cons (ev_lc (own := [("turn", 7)]) (by rfl) sc__law_weighing.nd (iv_range1 (by rfl) T.b_range (av_cons (ev_bin o_add ev_int (ev_callC (ok__law_draw T β) (hr.mono (by decide)) (by rfl) T.d__law_draw.m T.d__law_draw.k T.d__law_draw.b (av_cons (ev_var 0 (pv 0)) (av_cons ev_int av_nil)))) av_nil)) (blkOk_by (N := n__law_weighing) (sc := defScope st__law_weighing) (own := [("turn", 7)]) (by decide +kernel)) (fun _ _ _ _ _ => (bv_name (pg_name (i := 7) sc__law_weighing.nd (by rfl) (by first | exact Or.inl rfl | exact Or.inr rfl)))) (fun _ _ _ _ _ => tvs_nil) (fun _ _ _ _ _ => (ev_tup (av_cons (ev_callC (ok__law_draw T β) (hr.mono (by decide)) (by rfl) T.d__law_draw.m T.d__law_draw.k T.d__law_draw.b (av_cons (ev_var 0 (pv 0)) (av_cons (ev_var 3 (pv 3)) av_nil))) (av_cons (ev_bin o_sub (ev_callC (ok__law_draw T β) (hr.mono (by decide)) (by rfl) T.d__law_draw.m T.d__law_draw.k T.d__law_draw.b (av_cons (ev_var 0 (pv 0)) (av_cons (ev_bin o_add (ev_bin o_mul ev_int (ev_var 2 (pv 2))) ev_int) av_nil))) (ev_var 2 (pv 2))) av_nil)))) (sub_name (by decide))) av_nil))) red_ev (oset rfl) (by decide)) (svs_one (sv_appH (O := [4]) (i := 4) (ps_expr (pe_bm PySem.F.plainAttrs_list PySem.F.slot_list_append PySem.F.type_list_append mt_append (pv 4) (pa_cons (ev_tup (av_cons (ev_callC (ok__law_draw T β) (hr.mono (by decide)) (by rfl) T.d__law_draw.m T.d__law_draw.k T.d__law_draw.b (av_cons (ev_var 0 (pv 0)) (av_cons ev_int av_nil))) (av_cons (ev_callTy o_tup (by rfl) T.b_tuple (by decide +kernel) (av_cons (ev_callB (OpLN.ol (o_sorted (by rfl) (Room.vs hr))) (by rfl) T.b_sorted (by decide +kernel) (av_cons (ev_keys (pe_lc (own := [("to", 8)]) (by rfl) sc__law_weighing.nd (pi_keys (pv 6)) (blkOk_by (N := n__law_weighing) (sc := defScope st__law_weighing) (own := [("to", 8)]) (by decide +kernel)) (fun _ _ _ _ _ => (bv_name (pg_name (i := 8) sc__law_weighing.nd (by rfl) (by first | exact Or.inl rfl | exact Or.inr rfl)))) (fun _ _ _ _ _ => tvs_nil) (fun _ _ _ _ _ => (ev_tup (av_cons (ev_var 8 (pv 8)) (av_cons (ev_dget (Room.vs hr) (ev_var 6 (pv 6)) (ev_var 8 (pv 8))) av_nil))))) (sub_name (by decide))) av_nil)) av_nil)) av_nil))) pa_nil))) red_ev (by decide)))) (osub rfl) (osub rfl))) (svs_one (sv_ret (ev_tup (av_cons ev_str (av_cons (ev_callTy o_tup (by rfl) T.b_tuple (by decide +kernel) (av_cons (ev_var 4 (pv 4)) av_nil)) av_nil))))))))
theorem sc__law_choices : FnScope n__law_choices p__law_choices (defScope st__law_choices) := ⟨rfl, rfl, rfl, by decide +kernel, rfl, by decide +kernel, by decide +kernel⟩
theorem ok__law_choices (T : Txt K mg) (β : Option Addr) : FnOk P w K mg base (L2.CX P w) 1 T.d__law_choices.f T.d__law_choices.fd p__law_choices (spV β T.xc p__law_choices.length r__law_choices) :=
  fnV (k := 0) T.d__law_choices.F sc__law_choices β T.xc s__law_choices fun cdv A outer s H E hr F => (svs_cons (O1 := []) (sv_asgH (O := []) (O' := []) (i := 2) (ps_set (i := 2) sc__law_choices.nd (by rfl) (by first | exact Or.inl rfl | exact Or.inr rfl) (ev_lst (av_cons (ev_tup av_nil) av_nil))) red_ev (oset rfl) (by decide)) (svs_cons (O1 := []) (sv_forH (O := []) (passes_of (by rfl)) (by rfl) (iv_seq (ev_var 0 (pv 0))) (bv_tup (by rfl) (bvs_cons (bv_name (pg_name (i := 3) sc__law_choices.nd (by rfl) (by first | exact Or.inl rfl | exact Or.inr rfl))) (bvs_cons (bv_name (pg_name (i := 4) sc__law_choices.nd (by rfl) (by first | exact Or.inl rfl | exact Or.inr rfl))) bvs_nil))) (ρb := b_law_choices3) (svs_weak (O1 := []) (O2 := []) (svs_cons (O1 := [5]) (sv_asgNH (O := []) (O' := [5]) (i := 5) (ps_set (i := 5) sc__law_choices.nd (by rfl) (by first | exact Or.inl rfl | exact Or.inr rfl) (evn_lst av_nil)) redN_ev (oset rfl) (by decide)) (svs_cons (O1 := [5]) (sv_forH (O := [5]) (passes_of (by rfl)) (by rfl) (iv_seq (ev_var 2 (pv 2))) (bv_name (pg_name (i := 6) sc__law_choices.nd (by rfl) (by first | exact Or.inl rfl | exact Or.inr rfl))) (ρb := b_law_choices2) (svs_weak (O1 := [5]) (O2 := [5]) (svs_one (sv_if (O := [5]) (O' := [5]) (tv_cmp (o_eq (Room.vs hr)) (ev_var 3 (pv 3)) (ev_var 1 (pv 1)) (nomark _)) (svs_one (sv_asgN (O := [5]) (O' := [5]) (i := 5) (ps_set (i := 5) sc__law_choices.nd (by rfl) (by first | exact Or.inl rfl | exact Or.inr rfl) (evn_bin o_addN (ev_var 5 (pv 5)) (ev_lc (own := [("way", 7)]) (by rfl) sc__law_choices.nd (iv_seq (ev_var 4 (pv 4))) (blkOk_by (N := n__law_choices) (sc := defScope st__law_choices) (own := [("way", 7)]) (by decide +kernel)) (fun _ _ _ _ _ => (bv_name (pg_name (i := 7) sc__law_choices.nd (by rfl) (by first | exact Or.inl rfl | exact Or.inr rfl)))) (fun _ _ _ _ _ => tvs_nil) (fun _ _ _ _ _ => (ev_bin o_add (ev_var 6 (pv 6)) (ev_tup (av_cons (ev_var 7 (pv 7)) av_nil)))) (sub_name (by decide))))) redN_ev (oset rfl) (by decide))) (svs_one (sv_appH (O := [5]) (i := 5) (ps_expr (pe_bm PySem.F.plainAttrs_list PySem.F.slot_list_append PySem.F.type_list_append mt_append (pv 5) (pa_cons (ev_bin o_add (ev_var 6 (pv 6)) (ev_tup (av_cons ev_non av_nil))) pa_nil))) red_ev (by decide))))) (osub rfl) (osub rfl))) (svs_one (sv_weak (O1 := []) (O2 := []) (sv_asgH (O := []) (O' := []) (i := 2) (ps_set (i := 2) sc__law_choices.nd (by rfl) (by first | exact Or.inl rfl | exact Or.inr rfl) (ev_var 5 (pv 5))) red_ev (oset rfl) (by decide)) (osub rfl) (osub rfl))))) (osub rfl) (osub rfl))) (svs_one (sv_ret (ev_var 2 (pv 2))))))
theorem sc__law_edges : FnScope n__law_edges p__law_edges (defScope st__law_edges) := ⟨rfl, rfl, rfl, by decide +kernel, rfl, by decide +kernel, by decide +kernel⟩
theorem ok__law_edges (T : Txt K mg) (β : Option Addr) : FnOk P w K mg base (L2.CX P w) 1 T.d__law_edges.f T.d__law_edges.fd p__law_edges (spV β T.xc p__law_edges.length r__law_edges) :=
  fnV (k := 0) T.d__law_edges.F sc__law_edges β T.xc s__law_edges fun cdv A outer s H E hr F => (svs_one (sv_ret (ev_lc (own := [("k", 2)]) (by rfl) sc__law_edges.nd (iv_range1 (by rfl) T.b_range (av_cons (ev_callB o_len (by rfl) T.b_len (by decide +kernel) (av_cons (ev_var 0 (pv 0)) av_nil)) av_nil)) (blkOk_by (N := n__law_edges) (sc := defScope st__law_edges) (own := [("k", 2)]) (by decide +kernel)) (fun _ _ _ _ _ => (bv_name (pg_name (i := 2) sc__law_edges.nd (by rfl) (by first | exact Or.inl rfl | exact Or.inr rfl)))) (fun _ _ _ _ _ => tvs_nil) (fun _ _ _ _ _ => (ev_ix (ev_lst (av_cons (ev_ix (ev_ix (ev_var 0 (pv 0)) (ev_var 2 (pv 2))) ev_int) (av_cons (ev_tup (av_cons (ev_ix (ev_var 1 (pv 1)) (ev_var 2 (pv 2))) av_nil)) av_nil))) (ev_callTy o_int (by rfl) T.b_int (by decide +kernel) (av_cons (ev_cmp o_notN (ev_ix (ev_var 1 (pv 1)) (ev_var 2 (pv 2))) ev_non (nomark _)) av_nil)))) (sub_name (by decide)))))
theorem sc__law_rounds : FnScope n__law_rounds p__law_rounds (defScope st__law_rounds) := ⟨rfl, rfl, rfl, by decide +kernel, rfl, by decide +kernel, by decide +kernel⟩
theorem ok__law_rounds (T : Txt K mg) (β : Option Addr) : FnOk P w K mg base (L2.CX P w) 1 T.d__law_rounds.f T.d__law_rounds.fd p__law_rounds (spV β T.xc p__law_rounds.length r__law_rounds) :=
  fnV (k := 0) T.d__law_rounds.F sc__law_rounds β T.xc s__law_rounds fun cdv A outer s H E hr F => (svs_cons (O1 := []) (sv_asgH (O := []) (O' := []) (i := 2) (ps_set (i := 2) sc__law_rounds.nd (by rfl) (by first | exact Or.inl rfl | exact Or.inr rfl) (ev_lst (av_cons (ev_var 1 (pv 1)) av_nil))) red_ev (oset rfl) (by decide)) (svs_cons (O1 := []) (sv_asgH (O := []) (O' := []) (i := 3) (ps_set (i := 3) sc__law_rounds.nd (by rfl) (by first | exact Or.inl rfl | exact Or.inr rfl) ev_int) red_ev (oset rfl) (by decide)) (svs_cons (O1 := []) (sv_while (O := []) (passes_of (by rfl)) (tv_cmp o_lt (ev_var 3 (pv 3)) (ev_callB o_len (by rfl) T.b_len (by decide +kernel) (av_cons (ev_var 2 (pv 2)) av_nil)) (nomark _)) (ρb := b_law_rounds3) (svs_weak (O1 := []) (O2 := []) (svs_cons (O1 := []) (sv_asgH (O := []) (O' := []) (i := 2) (ps_set (i := 2) sc__law_rounds.nd (by rfl) (by first | exact Or.inl rfl | exact Or.inr rfl) (ev_bin o_add (ev_var 2 (pv 2)) (ev_lc (own := [("to", 4)]) (by rfl) sc__law_rounds.nd (iv_seq (ev_callB (OpLN.ol (o_sorted (by rfl) (Room.vs hr))) (by rfl) T.b_sorted (by decide +kernel) (av_cons (ev_callTy (OpLN.ol (o_dict (by rfl))) (by rfl) T.b_dict (by decide +kernel) (av_cons (ev_lc (own := [("way", 12)]) (by rfl) sc__law_rounds.nd (iv_seq (ev_ix (ev_var 0 (pv 0)) (ev_ix (ev_var 2 (pv 2)) (ev_var 3 (pv 3))))) (blkOk_by (N := n__law_rounds) (sc := defScope st__law_rounds) (own := [("way", 12)]) (by decide +kernel)) (fun _ _ _ _ _ => (bv_name (pg_name (i := 12) sc__law_rounds.nd (by rfl) (by first | exact Or.inl rfl | exact Or.inr rfl)))) (fun _ _ _ _ _ => tvs_nil) (fun _ _ _ _ _ => (ev_tup (av_cons (ev_ix (ev_var 12 (pv 12)) ev_int) (av_cons ev_bl av_nil)))) (sub_name (by decide))) av_nil)) av_nil))) (blkOk_by (N := n__law_rounds) (sc := defScope st__law_rounds) (own := [("to", 4)]) (by decide +kernel)) (fun _ _ _ _ _ => (bv_name (pg_name (i := 4) sc__law_rounds.nd (by rfl) (by first | exact Or.inl rfl | exact Or.inr rfl)))) (fun _ _ _ _ _ => (tvs_one (tv_cmp (o_notIn (Room.vs hr)) (ev_var 4 (pv 4)) (ev_var 2 (pv 2)) (by rfl)))) (fun _ _ _ _ _ => (ev_var 4 (pv 4))) (sub_name (by decide))))) red_ev (oset rfl) (by decide)) (svs_one (sv_asgH (O := []) (O' := []) (i := 3) (ps_set (i := 3) sc__law_rounds.nd (by rfl) (by first | exact Or.inl rfl | exact Or.inr rfl) (ev_bin o_add (ev_var 3 (pv 3)) ev_int)) red_ev (oset rfl) (by decide)))) (osub rfl) (osub rfl))) (svs_cons (O1 := [5]) (sv_asgNH (O := []) (O' := [5]) (i := 5) (ps_set (i := 5) sc__law_rounds.nd (by rfl) (by first | exact Or.inl rfl | exact Or.inr rfl) (evn_lst av_nil)) redN_ev (oset rfl) (by decide)) (svs_cons (O1 := [5]) (sv_forH (O := [5]) (passes_of (by rfl)) (by rfl) (iv_seq (ev_var 2 (pv 2))) (bv_name (pg_name (i := 6) sc__law_rounds.nd (by rfl) (by first | exact Or.inl rfl | exact Or.inr rfl))) (ρb := b_law_rounds6) (svs_weak (O1 := [5]) (O2 := [5, 7]) (svs_cons (O1 := [5, 7]) (sv_asgNH (O := [5]) (O' := [5, 7]) (i := 7) (ps_set (i := 7) sc__law_rounds.nd (by rfl) (by first | exact Or.inl rfl | exact Or.inr rfl) (evn_lst (av_cons (ev_tup (av_cons (ev_var 6 (pv 6)) (av_cons (ev_tup av_nil) (av_cons ev_int av_nil)))) av_nil))) redN_ev (oset rfl) (by decide)) (svs_one (sv_while (O := [5, 7]) (passes_of (by rfl)) (tv_cmp (o_ne (Room.vs hr)) (ev_var 7 (pv 7)) (ev_lst av_nil) (nomark _)) (ρb := b_law_rounds5) (svs_weak (O1 := [5, 7]) (O2 := [5, 7]) (svs_cons (O1 := [5, 7]) (sv_unpF (O := [5, 7]) (ps_asg (ev_ix (ev_var 7 (pv 7)) (ev_un o_neg ev_int)) (bv_tup (by rfl) (bvs_cons (bv_name (pg_name (i := 8) sc__law_rounds.nd (by rfl) (by first | exact Or.inl rfl | exact Or.inr rfl))) (bvs_cons (bv_name (pg_name (i := 9) sc__law_rounds.nd (by rfl) (by first | exact Or.inl rfl | exact Or.inr rfl))) (bvs_cons (bv_name (pg_name (i := 10) sc__law_rounds.nd (by rfl) (by first | exact Or.inl rfl | exact Or.inr rfl))) bvs_nil))))) red_ev) (svs_cons (O1 := [5, 7]) (sv_asgN (O := [5, 7]) (O' := [5, 7]) (i := 7) (ps_set (i := 7) sc__law_rounds.nd (by rfl) (by first | exact Or.inl rfl | exact Or.inr rfl) (evn_slice (ev_var 7 (pv 7)) pv_none (pv_some (ev_un o_neg ev_int)))) redN_ev (oset rfl) (by decide)) (svs_one (sv_forH (O := [5, 7]) (passes_of (by rfl)) (by rfl) (iv_seq (ev_ix (ev_var 0 (pv 0)) (ev_var 8 (pv 8)))) (bv_tup (by rfl) (bvs_cons (bv_name (pg_name (i := 4) sc__law_rounds.nd (by rfl) (by first | exact Or.inl rfl | exact Or.inr rfl))) (bvs_cons (bv_name (pg_name (i := 11) sc__law_rounds.nd (by rfl) (by first | exact Or.inl rfl | exact Or.inr rfl))) bvs_nil))) (ρb := b_law_rounds4) (svs_weak (O1 := [5, 7]) (O2 := [5, 7]) (svs_one (sv_if (O := [5, 7]) (O' := [5, 7]) (tv_cmp (o_eq (Room.vs hr)) (ev_var 4 (pv 4)) (ev_var 6 (pv 6)) (nomark _)) (svs_one (sv_appH (O := [5, 7]) (i := 5) (ps_expr (pe_bm PySem.F.plainAttrs_list PySem.F.slot_list_append PySem.F.type_list_append mt_append (pv 5) (pa_cons (ev_tup (av_cons (ev_bin o_add (ev_var 10 (pv 10)) (ev_var 11 (pv 11))) (av_cons (ev_bin o_add (ev_callB o_len (by rfl) T.b_len (by decide +kernel) (av_cons (ev_var 9 (pv 9)) av_nil)) ev_int) av_nil))) pa_nil))) red_ev (by decide))) (svs_one (sv_if (O := [5, 7]) (O' := [5, 7]) (TW.tv (tw_and (tv_cmp o_gt (ev_var 4 (pv 4)) (ev_var 6 (pv 6)) (nomark _)) (tw_and1 (tv_cmp (o_notIn (Room.vs hr)) (ev_var 4 (pv 4)) (ev_var 9 (pv 9)) (by rfl))))) (svs_one (sv_appH (O := [5, 7]) (i := 7) (ps_expr (pe_bm PySem.F.plainAttrs_list PySem.F.slot_list_append PySem.F.type_list_append mt_append (pv 7) (pa_cons (ev_tup (av_cons (ev_var 4 (pv 4)) (av_cons (ev_bin o_add (ev_var 9 (pv 9)) (ev_tup (av_cons (ev_var 4 (pv 4)) av_nil))) (av_cons (ev_bin o_add (ev_var 10 (pv 10)) (ev_var 11 (pv 11))) av_nil)))) pa_nil))) red_ev (by decide))) svs_nil)))) (osub rfl) (osub rfl)))))) (osub rfl) (osub rfl))))) (osub rfl) (osub rfl))) (svs_one (sv_ret (ev_var 5 (pv 5)))))))))
theorem sc__law_due : FnScope n__law_due p__law_due (defScope st__law_due) := ⟨rfl, rfl, rfl, by decide +kernel, rfl, by decide +kernel, by decide +kernel⟩
theorem ok__law_due (T : Txt K mg) (β : Option Addr) : FnOk P w K mg base (L2.CX P w) 1 T.d__law_due.f T.d__law_due.fd p__law_due (spV β T.xc p__law_due.length r__law_due) :=
  fnV (k := 0) T.d__law_due.F sc__law_due β T.xc s__law_due fun cdv A outer s H E hr F => (svs_cons (O1 := []) (sv_unpH (O := []) (ps_asg (ev_var 0 (pv 0)) (bv_tup (by rfl) (bvs_cons (bv_name (pg_name (i := 2) sc__law_due.nd (by rfl) (by first | exact Or.inl rfl | exact Or.inr rfl))) (bvs_cons (bv_name (pg_name (i := 3) sc__law_due.nd (by rfl) (by first | exact Or.inl rfl | exact Or.inr rfl))) bvs_nil)))) red_ev) (svs_cons (O1 := [4]) (sv_asgNH (O := []) (O' := [4]) (i := 4) (ps_set (i := 4) sc__law_due.nd (by rfl) (by first | exact Or.inl rfl | exact Or.inr rfl) (evn_lst av_nil)) redN_ev (oset rfl) (by decide)) (svs_cons (O1 := [4]) (sv_forH (O := [4]) (passes_of (by rfl)) (by rfl) (iv_seq (ev_var 3 (pv 3))) (bv_tup (by rfl) (bvs_cons (bv_name (pg_name (i := 5) sc__law_due.nd (by rfl) (by first | exact Or.inl rfl | exact Or.inr rfl))) (bvs_cons (bv_name (pg_name (i := 6) sc__law_due.nd (by rfl) (by first | exact Or.inl rfl | exact Or.inr rfl))) bvs_nil))) (ρb := b_law_due1) (svs_weak (O1 := [4]) (O2 := [4]) (svs_one (sv_if (O := [4]) (O' := [4]) (tv_cmp o_isN (ev_ix (ev_var 1 (pv 1)) (ev_var 5 (pv 5))) ev_non (nomark _)) (svs_one (sv_appH (O := [4]) (i := 4) (ps_expr (pe_bm PySem.F.plainAttrs_list PySem.F.slot_list_append PySem.F.type_list_append mt_append (pv 4) (pa_cons (ev_lst (av_cons ev_int (av_cons ev_int av_nil))) pa_nil))) red_ev (by decide))) (svs_one (sv_appH (O := [4]) (i := 4) (ps_expr (pe_bm PySem.F.plainAttrs_list PySem.F.slot_list_append PySem.F.type_list_append mt_append (pv 4) (pa_cons (ev_lst (av_cons ev_int (av_cons (ev_callB (o_max (by rfl)) (by rfl) T.b_max (by decide +kernel) (av_cons ev_int (av_cons (ev_bin o_sub (ev_ix (ev_var 1 (pv 1)) (ev_var 5 (pv 5))) (ev_var 6 (pv 6))) av_nil))) av_nil))) pa_nil))) red_ev (by decide))))) (osub rfl) (osub rfl))) (svs_cons (O1 := []) (sv_weak (O1 := []) (O2 := []) (sv_asgH (O := []) (O' := []) (i := 4) (ps_set (i := 4) sc__law_due.nd (by rfl) (by first | exact Or.inl rfl | exact Or.inr rfl) (ev_callB (OpLN.ol (o_sorted (by rfl) (Room.vs hr))) (by rfl) T.b_sorted (by decide +kernel) (av_cons (ev_var 4 (pv 4)) av_nil))) red_ev (oset rfl) (by decide)) (osub rfl) (osub rfl)) (svs_cons (O1 := []) (sv_asgH (O := []) (O' := []) (i := 7) (ps_set (i := 7) sc__law_due.nd (by rfl) (by first | exact Or.inl rfl | exact Or.inr rfl) (ev_ix (ev_lst (av_cons (ev_ix (ev_var 4 (pv 4)) ev_int) (av_cons (ev_ix (ev_var 4 (pv 4)) (ev_un o_neg ev_int)) av_nil))) (ev_var 2 (pv 2)))) red_ev (oset rfl) (by decide)) (svs_one (sv_ret (ev_ix (ev_lst (av_cons (ev_ix (ev_var 7 (pv 7)) ev_int) (av_cons ev_non av_nil))) (ev_ix (ev_var 7 (pv 7)) ev_int)))))))))
theorem sc__law_energies : FnScope n__law_energies p__law_energies (defScope st__law_energies) := ⟨rfl, rfl, rfl, by decide +kernel, rfl, by decide +kernel, by decide +kernel⟩
theorem ok__law_energies (T : Txt K mg) (β : Option Addr) : FnOk P w K mg base (L2.CX P w) 2 T.d__law_energies.f T.d__law_energies.fd p__law_energies (spV β T.xc p__law_energies.length r__law_energies) :=
  fnV (k := 1) T.d__law_energies.F sc__law_energies β T.xc s__law_energies fun cdv A outer s H E hr F => (svs_cons (O1 := []) (sv_asgH (O := []) (O' := []) (i := 1) (ps_set (i := 1) sc__law_energies.nd (by rfl) (by first | exact Or.inl rfl | exact Or.inr rfl) (ev_callB (o_sum (by rfl)) (by rfl) T.b_sum (by decide +kernel) (av_cons (ev_lc (own := [("owner", 7), ("ways", 8)]) (by rfl) sc__law_energies.nd (iv_seq (ev_var 0 (pv 0))) (blkOk_by (N := n__law_energies) (sc := defScope st__law_energies) (own := [("owner", 7), ("ways", 8)]) (by decide +kernel)) (fun _ _ _ _ _ => (bv_tup (by rfl) (bvs_cons (bv_name (pg_name (i := 7) sc__law_energies.nd (by rfl) (by first | exact Or.inl rfl | exact Or.inr rfl))) (bvs_cons (bv_name (pg_name (i := 8) sc__law_energies.nd (by rfl) (by first | exact Or.inl rfl | exact Or.inr rfl))) bvs_nil)))) (fun _ _ _ _ _ => tvs_nil) (fun _ _ _ _ _ => (ev_callB (o_max (by rfl)) (by rfl) T.b_max (by decide +kernel) (av_cons (ev_bin o_add (ev_lst (av_cons ev_int av_nil)) (ev_lc (own := [("to", 9), ("weight", 10)]) (by rfl) sc__law_energies.nd (iv_seq (ev_var 8 (pv 8))) (blkOk_by (N := n__law_energies) (sc := { kind := .function, names := [(PySem.Str.ofString ".0", .local), (PySem.Str.ofString "owner", .local), (PySem.Str.ofString "ways", .local), (PySem.Str.ofString "max", .globalImplicit)], isGenerator := false, isCoroutine := false, more := [] }) (own := [("to", 9), ("weight", 10)]) (by decide +kernel)) (fun _ _ _ _ _ => (bv_tup (by rfl) (bvs_cons (bv_name (pg_name (i := 9) sc__law_energies.nd (by rfl) (by first | exact Or.inl rfl | exact Or.inr rfl))) (bvs_cons (bv_name (pg_name (i := 10) sc__law_energies.nd (by rfl) (by first | exact Or.inl rfl | exact Or.inr rfl))) bvs_nil)))) (fun _ _ _ _ _ => tvs_nil) (fun _ _ _ _ _ => (ev_bin o_sub ev_int (ev_var 10 (pv 10)))) (sub_tup (subs_cons (sub_name (by decide)) (subs_cons (sub_name (by decide)) subs_nil))))) av_nil))) (sub_tup (subs_cons (sub_name (by decide)) (subs_cons (sub_name (by decide)) subs_nil)))) av_nil))) red_ev (oset rfl) (by decide)) (svs_cons (O1 := []) (sv_asgH (O := []) (O' := []) (i := 2) (ps_set (i := 2) sc__law_energies.nd (by rfl) (by first | exact Or.inl rfl | exact Or.inr rfl) (ev_bin o_mul (ev_lst (av_cons ev_int av_nil)) (ev_callB o_len (by rfl) T.b_len (by decide +kernel) (av_cons (ev_var 0 (pv 0)) av_nil)))) red_ev (oset rfl) (by decide)) (svs_cons (O1 := []) (sv_forH (O := []) (passes_of (by rfl)) (by rfl) (iv_range1 (by rfl) T.b_range (av_cons (ev_bin o_add (ev_bin o_mul (ev_bin o_add (ev_var 1 (pv 1)) ev_int) (ev_callB o_len (by rfl) T.b_len (by decide +kernel) (av_cons (ev_var 0 (pv 0)) av_nil))) ev_int) av_nil)) (bv_name (pg_name (i := 3) sc__law_energies.nd (by rfl) (by first | exact Or.inl rfl | exact Or.inr rfl))) (ρb := b_law_energies4) (svs_weak (O1 := []) (O2 := []) (svs_cons (O1 := [4]) (sv_asgNH (O := []) (O' := [4]) (i := 4) (ps_set (i := 4) sc__law_energies.nd (by rfl) (by first | exact Or.inl rfl | exact Or.inr rfl) (evn_lst av_nil)) redN_ev (oset rfl) (by decide)) (svs_cons (O1 := [4]) (sv_forH (O := [4]) (passes_of (by rfl)) (by rfl) (iv_range1 (by rfl) T.b_range (av_cons (ev_callB o_len (by rfl) T.b_len (by decide +kernel) (av_cons (ev_var 0 (pv 0)) av_nil)) av_nil)) (bv_name (pg_name (i := 5) sc__law_energies.nd (by rfl) (by first | exact Or.inl rfl | exact Or.inr rfl))) (ρb := b_law_energies3) (svs_weak (O1 := [4]) (O2 := [4]) (svs_cons (O1 := [4]) (sv_asgH (O := [4]) (O' := [4]) (i := 6) (ps_set (i := 6) sc__law_energies.nd (by rfl) (by first | exact Or.inl rfl | exact Or.inr rfl) (ev_callC (ok__law_due T β) (hr.mono (by decide)) (by rfl) T.d__law_due.m T.d__law_due.k T.d__law_due.b (av_cons (ev_ix (ev_var 0 (pv 0)) (ev_var 5 (pv 5))) (av_cons (ev_var 2 (pv 2)) av_nil)))) red_ev (oset rfl) (by decide)) (svs_one (sv_appH (O := [4]) (i := 4) (ps_expr (pe_bm PySem.F.plainAttrs_list PySem.F.slot_list_append PySem.F.type_list_append mt_append (pv 4) (pa_cons (ev_ix (ev_lst (av_cons (ev_var 6 (pv 6)) (av_cons ev_non av_nil))) (ev_callTy o_int (by rfl) T.b_int (by decide +kernel) (av_cons (ev_or (ev_cmp o_isN (ev_var 6 (pv 6)) ev_non (nomark _)) (ev_one (ev_cmp o_gt (ev_var 6 (pv 6)) (ev_var 1 (pv 1)) (nomark _)))) av_nil))) pa_nil))) red_ev (by decide)))) (osub rfl) (osub rfl))) (svs_cons (O1 := [4]) (sv_if (O := [4]) (O' := [4]) (tv_cmp (o_eq (Room.vs hr)) (ev_var 4 (pv 4)) (ev_var 2 (pv 2)) (nomark _)) (svs_one (sv_ret (ev_callTy o_tup (by rfl) T.b_tuple (by decide +kernel) (av_cons (ev_var 2 (pv 2)) av_nil)))) svs_nil) (svs_one (sv_weak (O1 := []) (O2 := []) (sv_asgH (O := []) (O' := []) (i := 2) (ps_set (i := 2) sc__law_energies.nd (by rfl) (by first | exact Or.inl rfl | exact Or.inr rfl) (ev_var 4 (pv 4))) red_ev (oset rfl) (by decide)) (osub rfl) (osub rfl)))))) (osub rfl) (osub rfl))) (svs_one (sv_ret (ev_callTy o_tup (by rfl) T.b_tuple (by decide +kernel) (av_cons (ev_var 2 (pv 2)) av_nil)))))))
theorem sc__law_is_saved : FnScope n__law_is_saved p__law_is_saved (defScope st__law_is_saved) := ⟨rfl, rfl, rfl, by decide +kernel, rfl, by decide +kernel, by decide +kernel⟩
theorem ok__law_is_saved (T : Txt K mg) (β : Option Addr) : FnOk P w K mg base (L2.CX P w) 2 T.d__law_is_saved.f T.d__law_is_saved.fd p__law_is_saved (spV β T.xc p__law_is_saved.length r__law_is_saved) :=
  fnV (k := 1) T.d__law_is_saved.F sc__law_is_saved β T.xc s__law_is_saved fun cdv A outer s H E hr F => (svs_cons (O1 := []) (sv_forH (O := []) (passes_of (by rfl)) (by rfl) (iv_seq (ev_callC (ok__law_choices T β) (hr.mono (by decide)) (by rfl) T.d__law_choices.m T.d__law_choices.k T.d__law_choices.b (av_cons (ev_var 0 (pv 0)) (av_cons ev_int av_nil)))) (bv_name (pg_name (i := 2) sc__law_is_saved.nd (by rfl) (by first | exact Or.inl rfl | exact Or.inr rfl))) (ρb := b_law_is_saved2) (svs_weak (O1 := []) (O2 := []) (svs_one (sv_if (O := []) (O' := []) (tv_cmp (o_eq (Room.vs hr)) (ev_lc (own := [("one", 3)]) (by rfl) sc__law_is_saved.nd (iv_seq (ev_callC (ok__law_rounds T β) (hr.mono (by decide)) (by rfl) T.d__law_rounds.m T.d__law_rounds.k T.d__law_rounds.b (av_cons (ev_callC (ok__law_edges T β) (hr.mono (by decide)) (by rfl) T.d__law_edges.m T.d__law_edges.k T.d__law_edges.b (av_cons (ev_var 0 (pv 0)) (av_cons (ev_var 2 (pv 2)) av_nil))) (av_cons (ev_var 1 (pv 1)) av_nil)))) (blkOk_by (N := n__law_is_saved) (sc := defScope st__law_is_saved) (own := [("one", 3)]) (by decide +kernel)) (fun _ _ _ _ _ => (bv_name (pg_name (i := 3) sc__law_is_saved.nd (by rfl) (by first | exact Or.inl rfl | exact Or.inr rfl)))) (fun _ _ _ _ _ => (tvs_one (tv_cmp o_lt (ev_ix (ev_var 3 (pv 3)) ev_int) ev_int (nomark _)))) (fun _ _ _ _ _ => (ev_var 3 (pv 3))) (sub_name (by decide))) (ev_lst av_nil) (nomark _)) (svs_one (sv_ret ev_bl)) svs_nil)) (osub rfl) (osub rfl))) (svs_one (sv_ret ev_bl)))
theorem sc__law_is_enough : FnScope n__law_is_enough p__law_is_enough (defScope st__law_is_enough) := ⟨rfl, rfl, rfl, by decide +kernel, rfl, by decide +kernel, by decide +kernel⟩
theorem ok__law_is_enough (T : Txt K mg) (β : Option Addr) : FnOk P w K mg base (L2.CX P w) 1 T.d__law_is_enough.f T.d__law_is_enough.fd p__law_is_enough (spV β T.xc p__law_is_enough.length r__law_is_enough) :=
  fnV (k := 0) T.d__law_is_enough.F sc__law_is_enough β T.xc s__law_is_enough fun cdv A outer s H E hr F => (svs_cons (O1 := []) (sv_forH (O := []) (passes_of (by rfl)) (by rfl) (iv_range1 (by rfl) T.b_range (av_cons (ev_callB o_len (by rfl) T.b_len (by decide +kernel) (av_cons (ev_var 0 (pv 0)) av_nil)) av_nil)) (bv_name (pg_name (i := 2) sc__law_is_enough.nd (by rfl) (by first | exact Or.inl rfl | exact Or.inr rfl))) (ρb := b_law_is_enough5) (svs_weak (O1 := []) (O2 := []) (svs_one (sv_if (O := []) (O' := []) (tv_cmp o_notN (ev_ix (ev_var 1 (pv 1)) (ev_var 2 (pv 2))) ev_non (nomark _)) (svs_weak (O1 := []) (O2 := [3]) (svs_cons (O1 := [3]) (sv_asgNH (O := []) (O' := [3]) (i := 3) (ps_set (i := 3) sc__law_is_enough.nd (by rfl) (by first | exact Or.inl rfl | exact Or.inr rfl) (evn_disp1 (Room.vs hr) (ev_tup (av_cons (ev_var 2 (pv 2)) (av_cons (ev_ix (ev_var 1 (pv 1)) (ev_var 2 (pv 2))) av_nil))) ev_bl)) redN_ev (oset rfl) (by decide)) (svs_one (sv_forH (O := [3]) (passes_of (by rfl)) (by rfl) (iv_range1 (by rfl) T.b_range (av_cons ev_int av_nil)) (bv_name (pg_name (i := 4) sc__law_is_enough.nd (by rfl) (by first | exact Or.inl rfl | exact Or.inr rfl))) (ρb := b_law_is_enough4) (svs_weak (O1 := [3]) (O2 := [3]) (svs_cons (O1 := [3, 5]) (sv_asgNH (O := [3]) (O' := [3, 5]) (i := 5) (ps_set (i := 5) sc__law_is_enough.nd (by rfl) (by first | exact Or.inl rfl | exact Or.inr rfl) evn_newT) redN_ev (oset rfl) (by decide)) (svs_cons (O1 := [5]) (sv_forK (O := [3, 5]) (O1 := [5]) (i := 3) (passes_of (by rfl)) (by rfl) (pv 3) (bv_tup (by rfl) (bvs_cons (bv_name (pg_name (i := 6) sc__law_is_enough.nd (by rfl) (by first | exact Or.inl rfl | exact Or.inr rfl))) (bvs_cons (bv_name (pg_name (i := 7) sc__law_is_enough.nd (by rfl) (by first | exact Or.inl rfl | exact Or.inr rfl))) bvs_nil))) (ρb := b_law_is_enough3) (svs_weak (O1 := [5]) (O2 := [5]) (svs_cons (O1 := [5]) (sv_unpH (O := [5]) (ps_asg (ev_ix (ev_var 0 (pv 0)) (ev_var 6 (pv 6))) (bv_tup (by rfl) (bvs_cons (bv_name (pg_name (i := 8) sc__law_is_enough.nd (by rfl) (by first | exact Or.inl rfl | exact Or.inr rfl))) (bvs_cons (bv_name (pg_name (i := 9) sc__law_is_enough.nd (by rfl) (by first | exact Or.inl rfl | exact Or.inr rfl))) bvs_nil)))) red_ev) (svs_cons (O1 := [5]) (sv_if (O := [5]) (O' := [5]) (tv_cmp (o_eq (Room.vs hr)) (ev_var 8 (pv 8)) ev_int (nomark _)) (svs_cons (O1 := [5]) (sv_asgH (O := [5]) (O' := [5]) (i := 12) (ps_setLc (i := 12) (own := [("to", 10), ("weight", 11)]) (by rfl) sc__law_is_enough.nd (by rfl) (by rfl) (sw_true (by rfl) (by rfl) (by rfl) (by decide +kernel)) (iv_seq (ev_var 9 (pv 9))) (blkOk_by (N := n__law_is_enough) (sc := defScope st__law_is_enough) (own := [("to", 10), ("weight", 11)]) (by decide +kernel)) (fun _ _ _ _ _ => (bv_tup (by rfl) (bvs_cons (bv_name (pg_name (i := 10) sc__law_is_enough.nd (by rfl) (by first | exact Or.inl rfl | exact Or.inr rfl))) (bvs_cons (bv_name (pg_name (i := 11) sc__law_is_enough.nd (by rfl) (by first | exact Or.inl rfl | exact Or.inr rfl))) bvs_nil)))) (fun _ _ _ _ _ => (tvs_one (tv_cmp o_notN (ev_ix (ev_var 1 (pv 1)) (ev_var 10 (pv 10))) ev_non (nomark _)))) (fun _ _ _ _ _ => (ev_tup (av_cons (ev_callB (o_max (by rfl)) (by rfl) T.b_max (by decide +kernel) (av_cons ev_int (av_cons (ev_bin o_sub (ev_ix (ev_var 1 (pv 1)) (ev_var 10 (pv 10))) (ev_var 11 (pv 11))) av_nil))) (av_cons (ev_var 10 (pv 10)) (av_cons (ev_var 11 (pv 11)) av_nil)))))) (red_lc (sub_tup (subs_cons (sub_name (by decide)) (subs_cons (sub_name (by decide)) subs_nil)))) (oset rfl) (by decide)) (svs_one (sv_asgH (O := [5]) (O' := [5]) (i := 9) (ps_set (i := 9) sc__law_is_enough.nd (by rfl) (by first | exact Or.inl rfl | exact Or.inr rfl) (ev_lst (av_cons (ev_slice (ev_callB (o_min (by rfl) (Room.vs hr)) (by rfl) T.b_min (by decide +kernel) (av_cons (ev_var 12 (pv 12)) av_nil)) (pv_some ev_int) pv_none) av_nil))) red_ev (oset rfl) (by decide)))) svs_nil) (svs_one (sv_forH (O := [5]) (passes_of (by rfl)) (by rfl) (iv_seq (ev_var 9 (pv 9))) (bv_tup (by rfl) (bvs_cons (bv_name (pg_name (i := 10) sc__law_is_enough.nd (by rfl) (by first | exact Or.inl rfl | exact Or.inr rfl))) (bvs_cons (bv_name (pg_name (i := 11) sc__law_is_enough.nd (by rfl) (by first | exact Or.inl rfl | exact Or.inr rfl))) bvs_nil))) (ρb := b_law_is_enough2) (svs_weak (O1 := [5]) (O2 := [5]) (svs_cons (O1 := [5]) (sv_if (O := [5]) (O' := [5]) (TW.tv (tw_or (tv_cmp o_lt (ev_bin o_add (ev_var 7 (pv 7)) (ev_var 11 (pv 11))) ev_int (nomark _)) (tw_or1 (tv_cmp o_isN (ev_ix (ev_var 1 (pv 1)) (ev_var 10 (pv 10))) ev_non (nomark _))))) (svs_one (sv_ret ev_bl)) svs_nil) (svs_one (sv_dputF (O := [5]) (i := 5) (ps_dput (by have := Room.vs hr; exact (by have h2 := this; exact Nat.lt_of_le_of_lt (Nat.add_le_add_left (by decide : 1 ≤ 64) _) h2)) (pv 5) (ev_tup (av_cons (ev_var 10 (pv 10)) (av_cons (ev_callB (o_min (by rfl) (Room.vs hr)) (by rfl) T.b_min (by decide +kernel) (av_cons (ev_bin o_add (ev_var 7 (pv 7)) (ev_var 11 (pv 11))) (av_cons ev_int av_nil))) av_nil))) ev_bl (by rfl)) red_ev red_ev (by decide)))) (osub rfl) (osub rfl)))))) (osub rfl) (osub rfl)) (by decide) (owo rfl)) (svs_one (sv_mv (O := [5]) (O' := [3]) (i := 3) (j := 5) (ps_set (i := 3) sc__law_is_enough.nd (by rfl) (by first | exact Or.inl rfl | exact Or.inr rfl) (pv 5)) (by decide) (by decide) (omv rfl) (by decide))))) (osub rfl) (osub rfl))))) (osub rfl) (osub rfl)) svs_nil)) (osub rfl) (osub rfl))) (svs_one (sv_ret ev_bl)))
end
end K80

/-! K80c: what tells, a case. -/
namespace K80
open PySem PySem.Spec L2 RZ VS
open PyProof.Rows hiding St
section
variable {P : Program} {w : World} {K : PySem.W.Frag} {mg : Str → Option Value} {base : Heap}
theorem sc__law_told : FnScope n__law_told p__law_told (defScope st__law_told) := ⟨rfl, rfl, rfl, by decide +kernel, rfl, by decide +kernel, by decide +kernel⟩
theorem ok__law_told (T : Txt K mg) (β : Option Addr) : FnOk P w K mg base (L2.CX P w) 6 T.d__law_told.f T.d__law_told.fd p__law_told (spTold β r_judge_energies T.d_judge_energies.f) := by
  refine T.d__law_told.F.okX (k := 5) sc__law_told (fun vs H Q E h => by obtain ⟨v1, v2, rfl, _⟩ := h; rfl) fun cdv A outer s H vs Q E hr h => ?_
  obtain ⟨v1, v2, rfl, F, g, ds, b, q, hm⟩ := h
  refine ⟨_, pss_one (ps_try_mas (i := 3) (tb := fun W => tRet (fun σ H Q => σ[0]? = some (some (.ref T.d_judge_energies.f)) ∧ tCallS (spV β T.xc p_judge_energies.length r_judge_energies) (WE W) (tCons (tVar 1) (tCons (tVar 2) tNil)) σ H Q)) (by rfl) (by rfl) sc__law_told.nd (by rfl) (by rfl) (takes_of (by rfl) (by rfl) (by rfl) (by rfl))
    (fun W pn xe tk _ => pss_one (ps_ret (pe_callLS (i := 0) (ok_judge_energies T β) (hr.mono (by decide)) (by rfl) (Or.inl rfl) T.d_judge_energies.k T.d_judge_energies.b (fun σ => passAt tk σ) (pa_cons (pv 1) (pa_cons (pv 2) pa_nil)))))
    (.cons (c := .ref T.x_BadGame.C) (ts := fun a cls d => tRet (tXf a cls d T.x_BadGame.C "place" (tVar 3))) ⟨by rfl, by decide, .inl T.x_BadGame.m⟩ (fun a oe cls d pn hz hf => pss_one (ps_ret (pe_xf T.x_BadGame.xf T.x_BadGame.no hz hf (pv 3))))
      (.cons (c := .ref T.x_BadPaper.C) (ts := fun a cls d => tRet (tXf a cls d T.x_BadPaper.C "word" (tVar 3))) ⟨by rfl, by decide, .inl T.x_BadPaper.m⟩ (fun a oe cls d pn hz hf => pss_one (ps_ret (pe_xf T.x_BadPaper.xf T.x_BadPaper.no hz hf (pv 3)))) .nil))), ?_⟩
  refine ⟨rfl, v1, rfl, v2, rfl, rfl, F, g, ds, b, q, ?_⟩
  unfold catchM at hm
  cases ho : r_judge_energies ds g with
  | bad => rw [ho] at hm; exact hm
  | ok d g' => rw [ho] at hm; exact hm
  | exn c p g' =>
    rw [ho] at hm
    intro H' F' cls dd ex bb xa
    obtain ⟨C, n, hx, rfl, hn⟩ := xa
    by_cases h0 : c = 0
    · have hm : ∀ v H' F', Ext β F H F' H' → BagOk β F' H' g' → R H' F' β p v → Q v H' := by
        simp only [h0, true_or, if_true] at hm
        exact hm
      have hx : T.xc c = some (C, n) := hx
      unfold Txt.xc at hx
      rw [if_pos h0] at hx
      cases hx
      obtain ⟨d1, v, rfl, hd, _, qv⟩ := hn
      exact ⟨true, T.x_BadGame.te, fun _ a ha => ⟨.ref a, rfl, rfl, rfl, d1, _, v, rfl, hd, rfl, hm v H' F' ex bb qv⟩, fun z => by cases z⟩
    · by_cases h1 : c = 1
      · have hm : ∀ v H' F', Ext β F H F' H' → BagOk β F' H' g' → R H' F' β p v → Q v H' := by
          simp only [h1, or_true, if_true] at hm
          exact hm
        have hx : T.xc c = some (C, n) := hx
        unfold Txt.xc at hx
        rw [if_neg h0, if_pos h1] at hx
        cases hx
        obtain ⟨d1, v, rfl, hd, _, qv⟩ := hn
        exact ⟨false, T.no10, (fun z => by cases z), fun _ => ⟨true, T.x_BadPaper.te, fun _ a ha => ⟨.ref a, rfl, rfl, rfl, d1, _, v, rfl, hd, rfl, hm v H' F' ex bb qv⟩, (fun z => by cases z)⟩⟩
      · have hx : T.xc c = some (C, n) := hx
        unfold Txt.xc at hx
        rw [if_neg h0, if_neg h1] at hx
        cases hx
theorem sc__law_case : FnScope n__law_case p__law_case (defScope st__law_case) := ⟨rfl, rfl, rfl, by decide +kernel, rfl, by decide +kernel, by decide +kernel⟩
theorem ok__law_case (T : Txt K mg) (β : Option Addr) : FnOk P w K mg base (L2.CX P w) 7 T.d__law_case.f T.d__law_case.fd p__law_case (spV β T.xc p__law_case.length r__law_case) :=
  fnV (k := 6) T.d__law_case.F sc__law_case β T.xc s__law_case fun cdv A outer s H E hr F => (svs_cons (O1 := []) (sv_asgH (O := []) (O' := []) (i := 1) (ps_set (i := 1) sc__law_case.nd (by rfl) (by first | exact Or.inl rfl | exact Or.inr rfl) (ev_callC (ok__law_weighing T β) (hr.mono (by decide)) (by rfl) T.d__law_weighing.m T.d__law_weighing.k T.d__law_weighing.b (av_cons (ev_var 0 (pv 0)) (av_cons ev_int (av_cons ev_int av_nil))))) red_ev (oset rfl) (by decide)) (svs_cons (O1 := []) (sv_asgH (O := []) (O' := []) (i := 2) (ps_set (i := 2) sc__law_case.nd (by rfl) (by first | exact Or.inl rfl | exact Or.inr rfl) (ev_ix (ev_var 1 (pv 1)) ev_int)) red_ev (oset rfl) (by decide)) (svs_cons (O1 := []) (sv_asgH (O := []) (O' := []) (i := 3) (ps_set (i := 3) sc__law_case.nd (by rfl) (by first | exact Or.inl rfl | exact Or.inr rfl) (ev_callC (ok_energies T β) (hr.mono (by decide)) (by rfl) T.d_energies.m T.d_energies.k T.d_energies.b (av_cons (ev_var 1 (pv 1)) av_nil))) red_ev (oset rfl) (by decide)) (svs_cons (O1 := []) (sv_if (O := []) (O' := []) (TW.tv (tw_or (tv_cmp o_notBl (ev_callC (ok_is_weighing T β) (hr.mono (by decide)) (by rfl) T.d_is_weighing.m T.d_is_weighing.k T.d_is_weighing.b (av_cons (ev_var 1 (pv 1)) av_nil)) ev_bl (nomark _)) (tw_or (tv_cmp (o_ne (Room.vs hr)) (ev_var 3 (pv 3)) (ev_callC (ok__law_energies T β) (hr.mono (by decide)) (by rfl) T.d__law_energies.m T.d__law_energies.k T.d__law_energies.b (av_cons (ev_var 2 (pv 2)) av_nil)) (nomark _)) (tw_or1 (tv_not (tv_val (ev_callC (ok__law_is_enough T β) (hr.mono (by decide)) (by rfl) T.d__law_is_enough.m T.d__law_is_enough.k T.d__law_is_enough.b (av_cons (ev_var 2 (pv 2)) (av_cons (ev_var 3 (pv 3)) av_nil))))))))) (svs_one (sv_ret ev_bl)) svs_nil) (svs_cons (O1 := []) (sv_if (O := []) (O' := []) (TW.tv (tw_or (tv_cmp (o_ne (Room.vs hr)) (ev_lc (own := [("k", 11)]) (by rfl) sc__law_case.nd (iv_range1 (by rfl) T.b_range (av_cons (ev_callB o_len (by rfl) T.b_len (by decide +kernel) (av_cons (ev_var 2 (pv 2)) av_nil)) av_nil)) (blkOk_by (N := n__law_case) (sc := defScope st__law_case) (own := [("k", 11)]) (by decide +kernel)) (fun _ _ _ _ _ => (bv_name (pg_name (i := 11) sc__law_case.nd (by rfl) (by first | exact Or.inl rfl | exact Or.inr rfl)))) (fun _ _ _ _ _ => (tvs_one (tv_cmp (o_ne (Room.vs hr)) (ev_cmp o_notN (ev_ix (ev_var 3 (pv 3)) (ev_var 11 (pv 11))) ev_non (nomark _)) (ev_callC (ok__law_is_saved T β) (hr.mono (by decide)) (by rfl) T.d__law_is_saved.m T.d__law_is_saved.k T.d__law_is_saved.b (av_cons (ev_var 2 (pv 2)) (av_cons (ev_var 11 (pv 11)) av_nil))) (nomark _)))) (fun _ _ _ _ _ => (ev_var 11 (pv 11))) (sub_name (by decide))) (ev_lst av_nil) (nomark _)) (tw_or1 (tv_cmp o_notN (ev_callC (ok_judge_energies T β) (hr.mono (by decide)) (by rfl) T.d_judge_energies.m T.d_judge_energies.k T.d_judge_energies.b (av_cons (ev_var 1 (pv 1)) (av_cons (ev_var 3 (pv 3)) av_nil))) ev_non (nomark _))))) (svs_one (sv_ret ev_bl)) svs_nil) (svs_cons (O1 := []) (sv_forH (O := []) (passes_of (by rfl)) (by rfl) (iv_range1 (by rfl) T.b_range (av_cons ev_int av_nil)) (bv_name (pg_name (i := 4) sc__law_case.nd (by rfl) (by first | exact Or.inl rfl | exact Or.inr rfl))) (ρb := b_law_case4) (svs_weak (O1 := []) (O2 := []) (svs_cons (O1 := []) (sv_asgH (O := []) (O' := []) (i := 5) (ps_set (i := 5) sc__law_case.nd (by rfl) (by first | exact Or.inl rfl | exact Or.inr rfl) (ev_callC (ok__law_draw T β) (hr.mono (by decide)) (by rfl) T.d__law_draw.m T.d__law_draw.k T.d__law_draw.b (av_cons (ev_var 0 (pv 0)) (av_cons (ev_callB o_len (by rfl) T.b_len (by decide +kernel) (av_cons (ev_var 2 (pv 2)) av_nil)) av_nil)))) red_ev (oset rfl) (by decide)) (svs_cons (O1 := []) (sv_asgH (O := []) (O' := []) (i := 6) (ps_set (i := 6) sc__law_case.nd (by rfl) (by first | exact Or.inl rfl | exact Or.inr rfl) (ev_bin o_add (ev_bin o_add (ev_slice (ev_var 3 (pv 3)) pv_none (pv_some (ev_var 5 (pv 5)))) (ev_tup (av_cons (ev_ix (ev_lst (av_cons ev_non (av_cons (ev_callC (ok__law_draw T β) (hr.mono (by decide)) (by rfl) T.d__law_draw.m T.d__law_draw.k T.d__law_draw.b (av_cons (ev_var 0 (pv 0)) (av_cons ev_int av_nil))) av_nil))) (ev_callC (ok__law_draw T β) (hr.mono (by decide)) (by rfl) T.d__law_draw.m T.d__law_draw.k T.d__law_draw.b (av_cons (ev_var 0 (pv 0)) (av_cons ev_int av_nil)))) av_nil))) (ev_slice (ev_var 3 (pv 3)) (pv_some (ev_bin o_add (ev_var 5 (pv 5)) ev_int)) pv_none))) red_ev (oset rfl) (by decide)) (svs_cons (O1 := []) (sv_asgH (O := []) (O' := []) (i := 7) (ps_set (i := 7) sc__law_case.nd (by rfl) (by first | exact Or.inl rfl | exact Or.inr rfl) (ev_lc (own := [("k", 11)]) (by rfl) sc__law_case.nd (iv_range1 (by rfl) T.b_range (av_cons (ev_callB o_len (by rfl) T.b_len (by decide +kernel) (av_cons (ev_var 2 (pv 2)) av_nil)) av_nil)) (blkOk_by (N := n__law_case) (sc := defScope st__law_case) (own := [("k", 11)]) (by decide +kernel)) (fun _ _ _ _ _ => (bv_name (pg_name (i := 11) sc__law_case.nd (by rfl) (by first | exact Or.inl rfl | exact Or.inr rfl)))) (fun _ _ _ _ _ => tvs_nil) (fun _ _ _ _ _ => (ev_callC (ok__law_due T β) (hr.mono (by decide)) (by rfl) T.d__law_due.m T.d__law_due.k T.d__law_due.b (av_cons (ev_ix (ev_var 2 (pv 2)) (ev_var 11 (pv 11))) (av_cons (ev_var 6 (pv 6)) av_nil)))) (sub_name (by decide)))) red_ev (oset rfl) (by decide)) (svs_cons (O1 := []) (sv_asgH (O := []) (O' := []) (i := 8) (ps_setLc (i := 8) (own := [("k", 11)]) (by rfl) sc__law_case.nd (by rfl) (by rfl) (sw_true (by rfl) (by rfl) (by rfl) (by decide +kernel)) (iv_range1 (by rfl) T.b_range (av_cons (ev_callB o_len (by rfl) T.b_len (by decide +kernel) (av_cons (ev_var 2 (pv 2)) av_nil)) av_nil)) (blkOk_by (N := n__law_case) (sc := defScope st__law_case) (own := [("k", 11)]) (by decide +kernel)) (fun _ _ _ _ _ => (bv_name (pg_name (i := 11) sc__law_case.nd (by rfl) (by first | exact Or.inl rfl | exact Or.inr rfl)))) (fun _ _ _ _ _ => (tvs_one (TW.tv (tw_and (tv_cmp o_notN (ev_ix (ev_var 6 (pv 6)) (ev_var 11 (pv 11))) ev_non (nomark _)) (tw_and1 (TW.tv (tw_or (tv_cmp o_isN (ev_ix (ev_var 7 (pv 7)) (ev_var 11 (pv 11))) ev_non (nomark _)) (tw_or1 (tv_cmp o_lt (ev_ix (ev_var 6 (pv 6)) (ev_var 11 (pv 11))) (ev_ix (ev_var 7 (pv 7)) (ev_var 11 (pv 11))) (nomark _)))))))))) (fun _ _ _ _ _ => (ev_var 11 (pv 11)))) (red_lc (sub_name (by decide))) (oset rfl) (by decide)) (svs_one (sv_if (O := []) (O' := []) (tv_cmp (o_ne (Room.vs hr)) (ev_told (ok__law_told T β) (hr.mono (by decide)) (by rfl) T.d__law_told.m T.d__law_told.k T.d__law_told.b (by rfl) T.d_judge_energies.m (av_cons (ev_var 1 (pv 1)) (av_cons (ev_var 6 (pv 6)) av_nil))) (ev_ix (ev_lst (av_cons ev_non (av_cons ev_str av_nil))) (ev_callTy o_int (by rfl) T.b_int (by decide +kernel) (av_cons (ev_cmp (o_ne (Room.vs hr)) (ev_var 8 (pv 8)) (ev_lst av_nil) (nomark _)) av_nil))) (nomark _)) (svs_one (sv_ret ev_bl)) svs_nil)))))) (osub rfl) (osub rfl))) (svs_cons (O1 := []) (sv_asgH (O := []) (O' := []) (i := 9) (ps_set (i := 9) sc__law_case.nd (by rfl) (by first | exact Or.inl rfl | exact Or.inr rfl) (ev_ix (ev_lst (av_cons ev_non (av_cons (ev_tup (av_cons ev_str (av_cons (ev_tup av_nil) av_nil))) (av_cons (ev_tup (av_cons ev_str (av_cons (ev_var 2 (pv 2)) av_nil))) (av_cons (ev_tup (av_cons ev_str (av_cons (ev_bin o_add (ev_var 2 (pv 2)) (ev_tup (av_cons (ev_tup (av_cons ev_int (av_cons (ev_tup av_nil) av_nil))) av_nil))) av_nil))) (av_cons (ev_tup (av_cons ev_str (av_cons (ev_bin o_add (ev_var 2 (pv 2)) (ev_tup (av_cons (ev_tup (av_cons ev_int (av_cons (ev_tup (av_cons (ev_tup (av_cons ev_int (av_cons ev_int av_nil))) av_nil)) av_nil))) av_nil))) av_nil))) (av_cons (ev_tup (av_cons ev_str (av_cons (ev_bin o_add (ev_var 2 (pv 2)) (ev_tup (av_cons (ev_tup (av_cons ev_int (av_cons (ev_tup (av_cons (ev_tup (av_cons ev_int (av_cons ev_int av_nil))) av_nil)) av_nil))) av_nil))) av_nil))) (av_cons (ev_tup (av_cons ev_str (av_cons (ev_bin o_add (ev_var 2 (pv 2)) (ev_tup (av_cons (ev_tup (av_cons ev_int (av_cons (ev_tup (av_cons (ev_tup (av_cons ev_int (av_cons ev_int av_nil))) (av_cons (ev_tup (av_cons ev_int (av_cons ev_int av_nil))) av_nil))) av_nil))) av_nil))) av_nil))) (av_cons (ev_tup (av_cons ev_str (av_cons (ev_bin o_add (ev_var 2 (pv 2)) (ev_tup (av_cons (ev_tup (av_cons ev_int (av_cons (ev_tup (av_cons (ev_tup (av_cons (ev_bin o_add (ev_callB o_len (by rfl) T.b_len (by decide +kernel) (av_cons (ev_var 2 (pv 2)) av_nil)) ev_int) (av_cons ev_int av_nil))) av_nil)) av_nil))) av_nil))) av_nil))) (av_cons (ev_tup (av_cons ev_str (av_cons (ev_bin o_add (ev_var 2 (pv 2)) (ev_tup (av_cons (ev_tup (av_cons ev_int (av_cons (ev_tup (av_cons (ev_tup (av_cons ev_int (av_cons ev_bl av_nil))) av_nil)) av_nil))) av_nil))) av_nil))) av_nil)))))))))) (ev_callC (ok__law_draw T β) (hr.mono (by decide)) (by rfl) T.d__law_draw.m T.d__law_draw.k T.d__law_draw.b (av_cons (ev_var 0 (pv 0)) (av_cons ev_int av_nil))))) red_ev (oset rfl) (by decide)) (svs_cons (O1 := []) (sv_asgH (O := []) (O' := []) (i := 10) (ps_set (i := 10) sc__law_case.nd (by rfl) (by first | exact Or.inl rfl | exact Or.inr rfl) (ev_ix (ev_lst (av_cons ev_non (av_cons (ev_slice (ev_var 3 (pv 3)) (pv_some ev_int) pv_none) (av_cons (ev_callTy (OpLN.ol o_list) (by rfl) T.b_list (by decide +kernel) (av_cons (ev_var 3 (pv 3)) av_nil)) (av_cons (ev_bin o_add (ev_tup (av_cons ev_bl av_nil)) (ev_slice (ev_var 3 (pv 3)) (pv_some ev_int) pv_none)) (av_cons (ev_bin o_add (ev_tup (av_cons (ev_un o_neg ev_int) av_nil)) (ev_slice (ev_var 3 (pv 3)) (pv_some ev_int) pv_none)) av_nil)))))) (ev_callC (ok__law_draw T β) (hr.mono (by decide)) (by rfl) T.d__law_draw.m T.d__law_draw.k T.d__law_draw.b (av_cons (ev_var 0 (pv 0)) (av_cons ev_int av_nil))))) red_ev (oset rfl) (by decide)) (svs_one (sv_ret (ev_and (ev_cmp o_isBl (ev_callC (ok_is_weighing T β) (hr.mono (by decide)) (by rfl) T.d_is_weighing.m T.d_is_weighing.k T.d_is_weighing.b (av_cons (ev_var 9 (pv 9)) av_nil)) ev_bl (nomark _)) (ev_and (ev_cmp (o_eq (Room.vs hr)) (ev_told (ok__law_told T β) (hr.mono (by decide)) (by rfl) T.d__law_told.m T.d__law_told.k T.d__law_told.b (by rfl) T.d_judge_energies.m (av_cons (ev_var 9 (pv 9)) (av_cons (ev_var 3 (pv 3)) av_nil))) ev_int (nomark _)) (ev_one (ev_cmp (o_eq (Room.vs hr)) (ev_told (ok__law_told T β) (hr.mono (by decide)) (by rfl) T.d__law_told.m T.d__law_told.k T.d__law_told.b (by rfl) T.d_judge_energies.m (av_cons (ev_var 1 (pv 1)) (av_cons (ev_var 10 (pv 10)) av_nil))) ev_str (nomark _)))))))))))))))
end
end K80

/-! K80d: the bag and the law, by hand. -/
namespace K80
open PySem PySem.Spec L2 RZ VS
open PyProof.Rows hiding St

theorem fn_all {ι : Type} {P : Program} {w : World} {K : PySem.W.Frag} {mg : Str → Option Value} {base : Heap} {CX : CXT} {k : Nat} {f : Addr} {fd : FuncData} {ps : List Str} {sp : ι → Sp} (h : ∀ i, FnOk P w K mg base CX k f fd ps (sp i)) :
    FnOk P w K mg base CX k f fd ps (fun vs H Q E => ∃ i, sp i vs H Q E) :=
  ⟨fun vs H Q E ⟨i, q⟩ => (h i).len vs H Q E q, fun A outer s H args us vs Q E hr he hb hv ⟨i, hs⟩ => (h i).run A outer s H args us vs Q E hr he hb hv hs⟩
theorem sql_keep {K : PySem.W.Frag} {H H' : Hp} {a : Addr} {xs : List V} (h : SqL K H a xs) (k : ∀ b o, H b = some o → H' b = some o) : SqL K H' a xs := by
  rcases h with h | h
  · rcases h with h | ⟨o, h⟩
    · exact .inl (.inl (k _ _ h))
    · exact .inl (.inr ⟨o, k _ _ h⟩)
  · exact .inr h
def cellOf (ns : List Int) (k : Int) : Int := if k < ns.length then ns.getD k.toNat 0 else 0
def bagOf (ns : List Int) (k : Int) : Bag := if 10 ^ 18 ≤ cellOf ns k then (cellOf ns k, cellOf ns k, k) else (0, cellOf ns k, k)
def spBag (K : PySem.W.Frag) : Sp := fun vs H Q _ => ∃ (a : Addr) (ns : List Int) (k : Int), vs = [.ref a, .int k] ∧ SqL K H a (ns.map V.int) ∧ 0 ≤ k ∧ ∀ p, H p = none → Q (.ref p) (upd H p (.lst (bagV (bagOf ns k))))
def spLaw (K : PySem.W.Frag) : Sp := fun vs H Q _ => ∃ (a : Addr) (ns : List Int), vs = [.ref a] ∧ SqL K H a (ns.map V.int) ∧ ns.length ≤ 63 ∧ ∀ H', Q (.bl true) H'
section
variable {P : Program} {w : World} {K : PySem.W.Frag} {mg : Str → Option Value} {base : Heap}
theorem sc__law_bag : FnScope n__law_bag p__law_bag (defScope st__law_bag) := ⟨rfl, rfl, rfl, by decide +kernel, rfl, by decide +kernel, by decide +kernel⟩
theorem ok__law_bag (T : Txt K mg) : FnOk P w K mg base (L2.CX P w) 1 T.d__law_bag.f T.d__law_bag.fd p__law_bag (spBag K) := by
  refine T.d__law_bag.F.okX (k := 0) sc__law_bag (fun vs H Q E h => by obtain ⟨a, ns, k, rfl, _⟩ := h; rfl) fun cdv A outer s H vs Q E hr h => ?_
  obtain ⟨a, ns, k, rfl, hS, hk, q⟩ := h
  refine ⟨_, pss_cons (ps_set (i := 2) sc__law_bag.nd (by rfl) (Or.inl rfl) pe_int) (pss_cons (ps_if (pt_cmpR op_lt (pv 1) (pe_callB call_len_seq (by rfl) T.b_len PySem.boot_len (pa_cons (pv 0) pa_nil)) (nomark _)) (pss_one (ps_set (i := 2) sc__law_bag.nd (by rfl) (Or.inl rfl) (pe_callTy call_int1 (by rfl) T.b_int (by decide +kernel) (pa_cons (pe_ix ix_list (pv 0) (pv 1) (by intro _ _; rfl)) pa_nil)))) pss_nil)
    (pss_cons (ps_if (pt_cmpR op_ge (pv 2) (pe_op op_pow pe_int pe_int) (nomark _)) (pss_one (ps_ret (pe_lst (pa_cons (pv 2) (pa_cons (pv 2) (pa_cons (pv 1) pa_nil)))))) pss_nil) (pss_one (ps_ret (pe_lst (pa_cons pe_int (pa_cons (pv 2) (pa_cons (pv 1) pa_nil)))))))), ?_⟩
  have hpow : (10 : Int) ^ (18 : Int).toNat = 10 ^ 18 := rfl
  by_cases hlt : k < (ns.map V.int).length
  · have hlt' : k < ns.length := by simpa using hlt
    have hi : k.toNat < ns.length := by omega
    have hat : L2.atI (ns.map V.int) k = some (.int (ns.getD k.toNat 0)) := by
      unfold L2.atI ixN
      rw [if_pos hk, if_pos hlt]
      show (ns.map V.int)[k.toNat]? = _
      rw [List.getElem?_map, List.getElem?_eq_getElem hi, List.getD_eq_getElem?_getD, List.getElem?_eq_getElem hi]
      rfl
    have hc : cellOf ns k = ns.getD k.toNat 0 := by unfold cellOf; rw [if_pos hlt']
    refine ⟨.int k, rfl, .ref a, rfl, a, _, rfl, .inl hS, k, _, rfl, rfl, _, rfl, ?_⟩
    rw [decide_eq_true hlt]
    refine iteT ?_
    refine ⟨.ref a, rfl, .int k, rfl, a, _, k, _, rfl, rfl, hS, hat, .inl ⟨_, rfl, ?_⟩⟩
    refine ⟨.int (ns.getD k.toNat 0), rfl, 10, 18, rfl, rfl, ⟨by decide, by decide, by decide⟩, _, _, rfl, rfl, _, rfl, ?_⟩
    by_cases hge : (10 : Int) ^ (18 : Int).toNat ≤ ns.getD k.toNat 0
    · rw [decide_eq_true hge]
      refine iteT ?_
      have e : bagOf ns k = (ns.getD k.toNat 0, ns.getD k.toNat 0, k) := by unfold bagOf; rw [hc, if_pos (show (10 : Int) ^ 18 ≤ _ from hge)]
      rw [e] at q
      exact ⟨_, rfl, _, rfl, _, rfl, by show 3 ≤ sizeLine; rw [sizeLine_eq]; decide, fun p hp => q p hp⟩
    · rw [decide_eq_false hge]
      refine iteF ?_
      have e : bagOf ns k = (0, ns.getD k.toNat 0, k) := by unfold bagOf; rw [hc, if_neg (show ¬ (10 : Int) ^ 18 ≤ _ from hge)]
      rw [e] at q
      exact ⟨_, rfl, _, rfl, by show 3 ≤ sizeLine; rw [sizeLine_eq]; decide, fun p hp => q p hp⟩
  · have hlt' : ¬ k < ns.length := by simpa using hlt
    have hc : cellOf ns k = 0 := by unfold cellOf; rw [if_neg hlt']
    refine ⟨.int k, rfl, .ref a, rfl, a, _, rfl, .inl hS, k, _, rfl, rfl, _, rfl, ?_⟩
    rw [decide_eq_false hlt]
    refine iteF ?_
    refine ⟨.int 0, rfl, 10, 18, rfl, rfl, ⟨by decide, by decide, by decide⟩, _, _, rfl, rfl, _, rfl, ?_⟩
    have hge : ¬ (10 : Int) ^ (18 : Int).toNat ≤ 0 := by decide
    rw [decide_eq_false hge]
    refine iteF ?_
    have e : bagOf ns k = (0, 0, k) := by unfold bagOf; rw [hc, if_neg (by decide)]
    rw [e] at q
    exact ⟨_, rfl, _, rfl, by show 3 ≤ sizeLine; rw [sizeLine_eq]; decide, fun p hp => q p hp⟩
theorem sc_law : FnScope n_law p_law (defScope st_law) := ⟨rfl, rfl, rfl, by decide +kernel, rfl, by decide +kernel, by decide +kernel⟩
theorem ok_law (T : Txt K mg) (htest : ∀ g, t_law [none, none] g = .ok false g) (hcase : ∀ (ns : List Int) (k : Int), 0 ≤ k → k < 3 → ∃ g', r__law_case [.bag] (bagOf ns k) = .ok (.bl true) g') :
    FnOk P w K mg base (L2.CX P w) 8 T.d_law.f T.d_law.fd p_law (spLaw K) := by
  refine T.d_law.F.okX (k := 7) sc_law (fun vs H Q E h => by obtain ⟨a, ns, rfl, _⟩ := h; rfl) fun cdv A outer s H vs Q E hr h => ?_
  obtain ⟨a, ns, rfl, hS, hlen, q⟩ := h
  have β : Option Addr := none
  refine ⟨_, pss_cons (ps_if (tc := tT ⟨none, fun cls d _ H => E cls d H, T.xc⟩ t_law) (show TV _ _ _ t_law from (TW.tv (tw_or (tv_cmp (o_ne (Room.vs hr)) (ev_lst (av_cons (ev_gint (by rfl) T.g_MOST_WEIGHED) (av_cons (ev_gint (by rfl) T.g_MOST_WEIGHT) av_nil))) (ev_lst (av_cons ev_int (av_cons ev_int av_nil))) (nomark _)) (tw_or1 (tv_cmp o_notBl (ev_callC (ok_is_weighing T none) (hr.mono (by decide)) (by rfl) T.d_is_weighing.m T.d_is_weighing.k T.d_is_weighing.b (av_cons (ev_tup (av_cons ev_str (av_cons (ev_bin o_mul (ev_tup (av_cons (ev_tup (av_cons ev_int (av_cons (ev_tup (av_cons (ev_tup (av_cons ev_int (av_cons ev_int av_nil))) av_nil)) av_nil))) av_nil)) ev_int) av_nil))) av_nil)) ev_bl (nomark _)))))) (pss_one (ps_ret pe_bl)) pss_nil) (pss_cons (ps_for (passes_of (by rfl)) (by rfl) (pi_range1 (by rfl) T.b_range (pa_cons (pe_callB (call_min2 (by rfl)) (by rfl) T.b_min (by decide +kernel) (pa_cons (pe_callB (call_max2 (by rfl)) (by rfl) T.b_max (by decide +kernel) (pa_cons (pe_callB call_len_seq (by rfl) T.b_len PySem.boot_len (pa_cons (pv 0) pa_nil)) (pa_cons pe_int pa_nil))) (pa_cons pe_int pa_nil))) pa_nil)) (pg_name (i := 1) sc_law.nd (by rfl) (Or.inl rfl))
    (pss_one (ps_if (pt_not (pt_val (pe_call (fn_all fun β => ok__law_case T β) (hr.mono (by decide)) (by rfl) T.d__law_case.m T.d__law_case.k T.d__law_case.b .nil passL (pa_cons (pe_call (ok__law_bag T) (hr.mono (by decide)) (by rfl) T.d__law_bag.m T.d__law_bag.k T.d__law_bag.b .nil passL (pa_cons (pv 0) (pa_cons (pv 1) pa_nil))) pa_nil)))) (pss_one (ps_ret pe_bl)) pss_nil))) (pss_one (ps_ret pe_bl))), ?_⟩
  refine ⟨[none, none], fun _ => False, (0, 0, 0), ⟨rfl, fun i d e => ?_, ⟨fun _ z => z.elim, fun _ z => by cases z⟩⟩, ?_⟩
  · match i with
    | 0 => cases e
    | 1 => cases e
    | i + 2 => simp at e
  rw [htest]
  intro H1 F1 ex b1
  have hS1 := sql_keep hS fun b o e => ex.keep b o e (fun z => by cases z)
  refine iteF ?_
  refine ⟨.ref a, rfl, a, _, rfl, .inl hS1, _, 1, rfl, _, 3, rfl, _, rfl, ?_, ?_, ?_⟩
  · split <;> (try split) <;> omega
  · have : (ns.map V.int).length ≤ 63 := by simpa using hlen
    split <;> (try split) <;> omega
  · generalize hm : (if (3 : Int) < (if (1 : Int) > ((ns.map V.int).length : Int) then 1 else ((ns.map V.int).length : Int)) then (3 : Int) else (if (1 : Int) > ((ns.map V.int).length : Int) then 1 else ((ns.map V.int).length : Int))) = m
    have hm3 : m ≤ 3 := by rw [← hm]; split <;> (try split) <;> omega
    refine for_it (walk_range (lo := 0) (n := m.toNat)) (fun i σ H2 => (∃ x, σ = [some (.ref a), x]) ∧ SqL K H2 a (ns.map V.int)) ⟨⟨none, rfl⟩, hS1⟩ (fun _ _ _ _ _ => trivial) ?_ ?_
    · rintro i x σ H2 H3 hi ⟨⟨y, rfl⟩, hS2⟩ ⟨rfl, rfl⟩
      refine ⟨.ref a, rfl, .int (0 + (i : Int)), rfl, a, ns, 0 + (i : Int), rfl, hS2, by omega, fun p hp => ?_⟩
      obtain ⟨g', hg'⟩ := hcase ns (0 + (i : Int)) (by omega) (by omega)
      have hap : a = p → False ∨ True := fun _ => .inr trivial
      refine ⟨some p, rfl, fun _ => False, bagOf ns (0 + (i : Int)), [.bag], ⟨fun _ z => z.elim, fun b hb => ?_⟩, .one ?_, ?_⟩
      · cases hb
        exact ⟨fun z => z, upd_same⟩
      · unfold R
        exact ⟨p, rfl, rfl⟩
      · rw [hg']
        intro v H4 F4 ex4 b4 r4
        rw [r_bl r4]
        refine ⟨true, rfl, ?_⟩
        refine iteF ?_
        refine ⟨⟨_, rfl⟩, sql_keep hS2 fun b o e => ex4.keep b o (by rw [upd_ne (ne_of_none e hp)]; exact e) fun z => ?_⟩
        cases z
        rw [hp] at e
        cases e
    · rintro σ H2 _
      exact q H2
end
end K80

/-! K80S4: _law_case: the end. -/
namespace K80
open PySem PySem.Spec L2 RZ VS
open PyProof.Rows hiding St

theorem told_bad {d p : D} (h : r_is_weighing [d] = M.ret (.bl false)) : catchM (r_judge_energies [d, p]) = M.ret (.int 0) := by
  rw [judge_game h, catch_rz 0 _ (.inl rfl)]
theorem pick9 {α : Type} {P : α → Prop} {xs : List α} {n : Nat} (hl : xs.length = n) (h : ∀ x ∈ xs, P x) {v : Int} (h0 : 0 ≤ v) (hn : v < n) : ∃ x, atI xs v = some x ∧ P x := by
  obtain ⟨i, rfl⟩ : ∃ i : Nat, (i : Int) = v := ⟨v.toNat, Int.toNat_of_nonneg h0⟩
  have hi : i < xs.length := by omega
  exact ⟨xs[i], by rw [VS.atI_nat, List.getElem?_eq_getElem hi], h _ (List.getElem_mem hi)⟩
def odds (ns : List Nd) : List D := [.non, .tup [.str "weighing", .tup []], .tup [.str "weighings", encNs ns], .tup [.str "weighing", .tup (ns.map encN ++ [encN (0, [])])], .tup [.str "weighing", .tup (ns.map encN ++ [encN (2, [(0, 1)])])], .tup [.str "weighing", .tup (ns.map encN ++ [encN (0, [(0, 21)])])],
  .tup [.str "weighing", .tup (ns.map encN ++ [encN (0, [(0, 1), (0, 2)])])], .tup [.str "weighing", .tup (ns.map encN ++ [encN (1, [((ns.length : Int) + 1, 0)])])], .tup [.str "weighing", .tup (ns.map encN ++ [.tup [.int 0, .tup [.tup [.int 0, .bl true]]]])]]
theorem odds_bad {ns : List Nd} (h : Good ns) : ∀ d ∈ odds ns, r_is_weighing [d] = M.ret (.bl false) := by
  have l1 := h.l1
  unfold odds
  simp only [List.forall_mem_cons]
  refine ⟨weigh_non, weigh_none, weigh_word, weigh_badN h _ (by simp) ?_, weigh_badN h _ (by simp) ?_, weigh_badN h _ (by simp) ?_, weigh_badN h _ (by simp) ?_, weigh_badN h _ (by simp) ?_, weigh_true h, fun x hx => nomatch hx⟩
  · simp [chk]
  · simp [chk]
  · simp [chk, okWay]
  · simp [chk, up]
  · simp [chk, okWay]
def wrongs (f : Fs) : List D := [.non, .tup (f.tail.map encO), .lst (f.map encO), .tup (.bl true :: f.tail.map encO), .tup (.int (-1) :: f.tail.map encO)]
theorem wrongs_bad {ns : List Nd} (h : Good ns) {f : Fs} (hl : f.length = ns.length) : ∀ d ∈ wrongs f, catchM (r_judge_energies [encG ns, d]) = M.ret (.str "form") := by
  have l1 := h.l1
  have ht : f.tail.length + 1 = ns.length := by rw [List.length_tail]; omega
  have form : ∀ d, r_judge_energies [encG ns, d] = rz 1 (.str "form") → catchM (r_judge_energies [encG ns, d]) = M.ret (.str "form") := fun d e => by rw [e, catch_rz 1 _ (.inr rfl)]
  have pd : ∀ x ∈ f.tail.map encO, Pd x := fun x hx => by obtain ⟨o, _, rfl⟩ := List.mem_map.mp hx; exact .encO o
  unfold wrongs
  simp only [List.forall_mem_cons]
  refine ⟨form _ (judge_notup h (by simp)), form _ (judge_len h _ (by rw [List.length_map]; omega)), form _ (judge_notup h (by simp)), form _ (judge_bad h _ (fun x hx => ?_) (by rw [List.length_cons, List.length_map]; exact ht) (by simp [okD])), form _ (judge_bad h _ (fun x hx => ?_) (by rw [List.length_cons, List.length_map]; exact ht) (by simp [okD])), fun x hx => nomatch hx⟩
  · rcases List.mem_cons.mp hx with rfl | hx
    · exact .inr (.inr ⟨true, rfl⟩)
    · exact pd x hx
  · rcases List.mem_cons.mp hx with rfl | hx
    · exact .inr (.inl ⟨-1, rfl⟩)
    · exact pd x hx
noncomputable def oddA : AX := (consA (cE .non) (consA (tupE (consA (cE (.str "weighing")) (consA (tupE nilA) nilA))) (consA (tupE (consA (cE (.str "weighings")) (consA (varE 2) nilA))) (consA (tupE (consA (cE (.str "weighing")) (consA (bin2 addD (varE 2) (tupE (consA (tupE (consA (cE (.int 0)) (consA (tupE nilA) nilA))) nilA))) nilA))) (consA (tupE (consA (cE (.str "weighing")) (consA (bin2 addD (varE 2) (tupE (consA (tupE (consA (cE (.int 2)) (consA (tupE (consA (tupE (consA (cE (.int 0)) (consA (cE (.int 1)) nilA))) nilA)) nilA))) nilA))) nilA))) (consA (tupE (consA (cE (.str "weighing")) (consA (bin2 addD (varE 2) (tupE (consA (tupE (consA (cE (.int 0)) (consA (tupE (consA (tupE (consA (cE (.int 0)) (consA (cE (.int 21)) nilA))) nilA)) nilA))) nilA))) nilA))) (consA (tupE (consA (cE (.str "weighing")) (consA (bin2 addD (varE 2) (tupE (consA (tupE (consA (cE (.int 0)) (consA (tupE (consA (tupE (consA (cE (.int 0)) (consA (cE (.int 1)) nilA))) (consA (tupE (consA (cE (.int 0)) (consA (cE (.int 2)) nilA))) nilA))) nilA))) nilA))) nilA))) (consA (tupE (consA (cE (.str "weighing")) (consA (bin2 addD (varE 2) (tupE (consA (tupE (consA (cE (.int 1)) (consA (tupE (consA (tupE (consA (bin2 addD (callE lenL (consA (varE 2) nilA)) (cE (.int 1))) (consA (cE (.int 0)) nilA))) nilA)) nilA))) nilA))) nilA))) (consA (tupE (consA (cE (.str "weighing")) (consA (bin2 addD (varE 2) (tupE (consA (tupE (consA (cE (.int 0)) (consA (tupE (consA (tupE (consA (cE (.int 0)) (consA (cE (.bl true)) nilA))) nilA)) nilA))) nilA))) nilA))) nilA)))))))))
theorem oddA_eq {ns : List Nd} (h : Good ns) {env : Slots} (h2 : varE 2 env = M.ret (encNs ns)) : oddA env = M.ret (odds ns) := by
  have l6 := h.l6
  have hadd : ∀ {a : EX} {d : D}, a env = M.ret d → tupE (consA (cE (.str "weighing")) (consA (bin2 addD (varE 2) (tupE (consA a nilA))) nilA)) env = M.ret (.tup [.str "weighing", .tup (ns.map encN ++ [d])]) := fun {a d} ha =>
    tup2_of rfl (bin2_of h2 (tup1_of ha) (addD_tt (by rw [List.length_map, List.length_singleton]; unfold line; omega)))
  have hlen : bin2 addD (callE lenL (consA (varE 2) nilA)) (cE (.int 1)) env = M.ret (.int ((ns.length : Int) + 1)) := bin2_of (x := .int ns.length) (y := .int 1) (call1_of h2 (by unfold encNs; rw [lenL_tup, List.length_map])) rfl rfl
  unfold oddA odds
  exact consA_of rfl (consA_of (tup2_of rfl rfl) (consA_of (tup2_of rfl h2) (consA_of (hadd rfl) (consA_of (hadd rfl) (consA_of (hadd rfl) (consA_of (hadd rfl) (consA_of (hadd (tup2_of rfl (tup1_of (tup2_of hlen rfl)))) (consA_of (hadd rfl) rfl))))))))
noncomputable def wrongA : AX := (consA (cE .non) (consA (slE (varE 3) (someP (cE (.int 1))) noP) (consA (callE listL (consA (varE 3) nilA)) (consA (bin2 addD (tupE (consA (cE (.bl true)) nilA)) (slE (varE 3) (someP (cE (.int 1))) noP)) (consA (bin2 addD (tupE (consA (un1 negD (cE (.int 1))) nilA)) (slE (varE 3) (someP (cE (.int 1))) noP)) nilA)))))
theorem wrongA_eq {f : Fs} (hl : f.length ≤ 6) {env : Slots} (h3 : varE 3 env = M.ret (.tup (f.map encO))) : wrongA env = M.ret (wrongs f) := by
  have hs : slE (varE 3) (someP (cE (.int 1))) noP env = M.ret (.tup (f.tail.map encO)) := by
    rw [slE_eq, h3, bnd_ret]
    show M.ofO (slD (.tup (f.map encO)) (some 1) none) = _
    rw [slD_tail, ← List.map_tail]
    rfl
  have ht : f.tail.length ≤ 6 := by rw [List.length_tail]; omega
  unfold wrongA wrongs
  exact consA_of rfl (consA_of hs (consA_of (call1_of h3 (listL_tup _)) (consA_of (bin2_of (x := .tup [.bl true]) rfl hs (by rw [addD_tt (by rw [List.length_singleton, List.length_map]; unfold line; omega)]; rfl)) (consA_of (bin2_of (x := .tup [.int (-1)]) rfl hs (by rw [addD_tt (by rw [List.length_singleton, List.length_map]; unfold line; omega)]; rfl)) rfl))))
theorem case_end {ns : List Nd} (h : Good ns) {f : Fs} (hl : f.length = ns.length) (x4 x5 x6 x7 x8 x9 x10 x11 : Option D) (g : Bag) :
    ∃ g', seqS (asgH [] 9 (bin2 ixD (lstE oddA) (fnE r__law_draw (consA (varE 0) (consA (cE (.int 9)) nilA)) p__law_draw.length))) (seqS (asgH [] 10 (bin2 ixD (lstE wrongA) (fnE r__law_draw (consA (varE 0) (consA (cE (.int 5)) nilA)) p__law_draw.length))) (retS (andE (bin2 isBlD (fnE r_is_weighing (consA (varE 9) nilA) p_is_weighing.length) (cE (.bl false))) (andE (bin2 eqVD (toldE r_judge_energies (consA (varE 9) (consA (varE 3) nilA))) (cE (.int 0))) (bin2 eqVD (toldE r_judge_energies (consA (varE 1) (consA (varE 10) nilA))) (cE (.str "form")))))))
      [some .bag, some (encG ns), some (encNs ns), some (.tup (f.map encO)), x4, x5, x6, x7, x8, x9, x10, x11] g = .ok (.rt (.bl true)) g' := by
  have l6 := h.l6
  obtain ⟨v, g1, hv, hv0, hv9⟩ := draw_call (env := [some .bag, some (encG ns), some (encNs ns), some (.tup (f.map encO)), x4, x5, x6, x7, x8, x9, x10, x11]) (a := cE (.int 9)) (many := 9) rfl rfl (by decide) g
  obtain ⟨o, ho, hob⟩ := pick9 (n := 9) rfl (odds_bad h) hv0 hv9
  have hA : asgH [] 9 (bin2 ixD (lstE oddA) (fnE r__law_draw (consA (varE 0) (consA (cE (.int 9)) nilA)) p__law_draw.length)) [some .bag, some (encG ns), some (encNs ns), some (.tup (f.map encO)), x4, x5, x6, x7, x8, x9, x10, x11] g = .ok (.nx [some .bag, some (encG ns), some (encNs ns), some (.tup (f.map encO)), x4, x5, x6, x7, x8, some o, x10, x11]) g1 :=
    asgH_at (pick_at (xs := odds ns) (g1 := g) (by rw [oddA_eq h (env := hide [] _) rfl]; rfl) (Nat.le_of_ble_eq_true rfl) hv ho)
  obtain ⟨u, g2, hu, hu0, hu5⟩ := draw_call (env := [some .bag, some (encG ns), some (encNs ns), some (.tup (f.map encO)), x4, x5, x6, x7, x8, some o, x10, x11]) (a := cE (.int 5)) (many := 5) rfl rfl (by decide) g1
  obtain ⟨w, hw, hwb⟩ := pick9 (n := 5) rfl (wrongs_bad h hl) hu0 hu5
  have hB : asgH [] 10 (bin2 ixD (lstE wrongA) (fnE r__law_draw (consA (varE 0) (consA (cE (.int 5)) nilA)) p__law_draw.length)) [some .bag, some (encG ns), some (encNs ns), some (.tup (f.map encO)), x4, x5, x6, x7, x8, some o, x10, x11] g1 = .ok (.nx [some .bag, some (encG ns), some (encNs ns), some (.tup (f.map encO)), x4, x5, x6, x7, x8, some o, some w, x11]) g2 :=
    asgH_at (pick_at (xs := wrongs f) (g1 := g1) (by rw [wrongA_eq (f := f) (by omega) (env := hide [] _) rfl]; rfl) (Nat.le_of_ble_eq_true rfl) hu hw)
  refine ⟨g2, ?_⟩
  rw [seqS_ok hA, seqS_ok hB]
  have e1 : bin2 isBlD (fnE r_is_weighing (consA (varE 9) nilA) p_is_weighing.length) (cE (.bl false)) [some .bag, some (encG ns), some (encNs ns), some (.tup (f.map encO)), x4, x5, x6, x7, x8, some o, some w, x11] = M.ret (.bl true) := bin2_of (fnE_of (args1 rfl) rfl hob) rfl rfl
  have e2 : bin2 eqVD (toldE r_judge_energies (consA (varE 9) (consA (varE 3) nilA))) (cE (.int 0)) [some .bag, some (encG ns), some (encNs ns), some (.tup (f.map encO)), x4, x5, x6, x7, x8, some o, some w, x11] = M.ret (.bl true) := by
    refine bin2_of (x := .int 0) (y := .int 0) ?_ rfl (by rw [eqVD_ii]; rfl)
    rw [toldE_eq, args2 (x := o) (y := .tup (f.map encO)) rfl rfl, bnd_ret]
    exact told_bad hob
  have e3 : bin2 eqVD (toldE r_judge_energies (consA (varE 1) (consA (varE 10) nilA))) (cE (.str "form")) [some .bag, some (encG ns), some (encNs ns), some (.tup (f.map encO)), x4, x5, x6, x7, x8, some o, some w, x11] = M.ret (.bl true) := by
    refine bin2_of (x := .str "form") (y := .str "form") ?_ rfl (eqVD_pl rfl rfl (Nat.zero_le _) true (by simp))
    rw [toldE_eq, args2 (x := encG ns) (y := w) rfl rfl, bnd_ret]
    exact hwb
  rw [retS_eq, andE_eq, e1, bnd_ret, andK_bl, if_pos rfl, andE_eq, e2, bnd_ret, andK_bl, if_pos rfl, e3]
  rfl
theorem judge_found {ns : List Nd} (h : Good ns) {f : Fs} (hL : Least ns (most ns) f) : r_judge_energies [encG ns, .tup (f.map encO)] = M.ret .non := by
  have hl := hL.pre.len
  rw [judge_fs h hl (fun u hu => by
    obtain ⟨i, hi⟩ := List.mem_iff_getElem?.mp hu
    cases u with
    | none => rfl
    | some v =>
      have : at_ f i = some v := by
        unfold at_
        rw [List.getD_eq_getElem?_getD, hi]
        rfl
      simpa [encO, okD] using hL.pre.pos i v this), if_neg]
  rw [bad_any hl, ne_eq, Classical.not_not, List.filter_eq_nil_iff]
  intro i hi
  have hi2 := List.mem_range.mp hi
  unfold badAt
  rw [nodup_at hi2]
  show ¬ badO (at_ f i) (due ns[i] f) = true
  cases hc : at_ f i with
  | none => simp [badO]
  | some c =>
    obtain ⟨a, ha, hac⟩ := hL.due_le (nodup_at hi2) hc
    rw [ha]
    simpa [badO] using hac
theorem nears {ns : List Nd} (h : Good ns) {f : Fs} (hL : Least ns (most ns) f) (x9 x10 x11 : Option D) : ∀ (ds : List D) (x4 x5 x6 x7 x8 : Option D) (g : Bag), ∃ y4 y5 y6 y7 y8 g', forGo [] (nameB 4) b_law_case4 ds [some .bag, some (encG ns), some (encNs ns), some (.tup (f.map encO)), x4, x5, x6, x7, x8, x9, x10, x11] g = .ok (.nx [some .bag, some (encG ns), some (encNs ns), some (.tup (f.map encO)), y4, y5, y6, y7, y8, x9, x10, x11]) g'
  | [], x4, x5, x6, x7, x8, g => ⟨x4, x5, x6, x7, x8, g, rfl⟩
  | d :: ds, x4, x5, x6, x7, x8, g => by
    obtain ⟨y5, y6, y7, y8, g1, h1⟩ := near_turn h hL (some d) x5 x6 x7 x8 x9 x10 x11 g
    obtain ⟨z4, z5, z6, z7, z8, g2, h2⟩ := nears h hL x9 x10 x11 ds (some d) y5 y6 y7 y8 g1
    refine ⟨z4, z5, z6, z7, z8, g2, ?_⟩
    rw [forGo_cons (l := [(4, d)]) rfl rfl]
    show M.bnd (b_law_case4 [some .bag, some (encG ns), some (encNs ns), some (.tup (f.map encO)), some d, x5, x6, x7, x8, x9, x10, x11]) _ g = _
    rw [bnd_okM h1]
    exact h2
theorem case_at (g : Bag) : ∃ g', r__law_case [.bag] g = .ok (.bl true) g' := by
  obtain ⟨ns, g1, h, hw⟩ := weighing_at g
  obtain ⟨f, hL, hen⟩ := energies_eq h
  have l6 := h.l6
  have hl := hL.pre.len
  have hA : asgH [] 1 (fnE r__law_weighing (consA (varE 0) (consA (cE (.int 6)) (consA (cE (.int 4)) nilA))) p__law_weighing.length) [some .bag, none, none, none, none, none, none, none, none, none, none, none] g = .ok (.nx [some .bag, some (encG ns), none, none, none, none, none, none, none, none, none, none]) g1 := asgH_at (fnE_at (ds := [.bag, .int 6, .int 4]) rfl rfl hw)
  have hB : asgH [] 2 (bin2 ixD (varE 1) (cE (.int 1))) [some .bag, some (encG ns), none, none, none, none, none, none, none, none, none, none] = M.ret (.nx [some .bag, some (encG ns), some (encNs ns), none, none, none, none, none, none, none, none, none]) := asgH_of (bin2_of (x := encG ns) (y := .int 1) rfl rfl (by unfold encG; rw [ixD_tup, atI_1]))
  have hC : asgH [] 3 (fnE r_energies (consA (varE 1) nilA) p_energies.length) [some .bag, some (encG ns), some (encNs ns), none, none, none, none, none, none, none, none, none] = M.ret (.nx [some .bag, some (encG ns), some (encNs ns), some (.tup (f.map encO)), none, none, none, none, none, none, none, none]) := asgH_of (fnE_of (args1 rfl) rfl hen)
  have hD : ifS (orT (valT (bin2 notBlD (fnE r_is_weighing (consA (varE 1) nilA) p_is_weighing.length) (cE (.bl true)))) (orT (valT (bin2 neVD (varE 3) (fnE r__law_energies (consA (varE 2) nilA) p__law_energies.length))) (notT (valT (fnE r__law_is_enough (consA (varE 2) (consA (varE 3) nilA)) p__law_is_enough.length))))) (retS (cE (.bl false))) nxS [some .bag, some (encG ns), some (encNs ns), some (.tup (f.map encO)), none, none, none, none, none, none, none, none] = M.ret (.nx [some .bag, some (encG ns), some (encNs ns), some (.tup (f.map encO)), none, none, none, none, none, none, none, none]) := by
    have e1 : valT (bin2 notBlD (fnE r_is_weighing (consA (varE 1) nilA) p_is_weighing.length) (cE (.bl true))) [some .bag, some (encG ns), some (encNs ns), some (.tup (f.map encO)), none, none, none, none, none, none, none, none] = M.ret false := valT_of (bin2_of (fnE_of (args1 rfl) rfl (weigh_ok h)) rfl rfl)
    have e2 : valT (bin2 neVD (varE 3) (fnE r__law_energies (consA (varE 2) nilA) p__law_energies.length)) [some .bag, some (encG ns), some (encNs ns), some (.tup (f.map encO)), none, none, none, none, none, none, none, none] = M.ret false := by
      refine valT_of (bin2_of (x := .tup (f.map encO)) rfl (fnE_of (args1 rfl) rfl (law_energies_eq h hL)) ?_)
      have hp : pl (.tup (f.map encO)) = true := by
        unfold pl
        exact pls_map encO pl_encO f
      have hd : (toPy (.tup (f.map encO))).depth ≤ 60 := by
        have := depth_fs f
        simpa [toPy, PyData.depth] using this
      exact neVD_pl hp hp hd true (by simp)
    have e3 : notT (valT (fnE r__law_is_enough (consA (varE 2) (consA (varE 3) nilA)) p__law_is_enough.length)) [some .bag, some (encG ns), some (encNs ns), some (.tup (f.map encO)), none, none, none, none, none, none, none, none] = M.ret false := notT_of (b := true) (valT_of (fnE_of (args2 rfl rfl) rfl (enough_eq h hL)))
    rw [ifS_of (c := false) (by rw [orT_eq, e1, bnd_ret, if_neg (by decide), orT_eq, e2, bnd_ret, if_neg (by decide), e3])]
    rfl
  have hE : ifS (orT (valT (bin2 neVD e_law_case1 (lstE nilA))) (valT (bin2 notNonD (fnE r_judge_energies (consA (varE 1) (consA (varE 3) nilA)) p_judge_energies.length) (cE .non)))) (retS (cE (.bl false))) nxS [some .bag, some (encG ns), some (encNs ns), some (.tup (f.map encO)), none, none, none, none, none, none, none, none] = M.ret (.nx [some .bag, some (encG ns), some (encNs ns), some (.tup (f.map encO)), none, none, none, none, none, none, none, none]) := by
    have e1 : valT (bin2 neVD e_law_case1 (lstE nilA)) [some .bag, some (encG ns), some (encNs ns), some (.tup (f.map encO)), none, none, none, none, none, none, none, none] = M.ret false := valT_of (bin2_of (case1_eq h hL _ _ _ _ _ _ _ _ _ _) rfl (neVD_nil rfl))
    have e2 : valT (bin2 notNonD (fnE r_judge_energies (consA (varE 1) (consA (varE 3) nilA)) p_judge_energies.length) (cE .non)) [some .bag, some (encG ns), some (encNs ns), some (.tup (f.map encO)), none, none, none, none, none, none, none, none] = M.ret false := valT_of (bin2_of (fnE_of (args2 rfl rfl) rfl (judge_found h hL)) rfl rfl)
    rw [ifS_of (c := false) (by rw [orT_eq, e1, bnd_ret, if_neg (by decide), e2])]
    rfl
  obtain ⟨y4, y5, y6, y7, y8, g2, hn⟩ := nears h hL none none none (rngD 0 3) none none none none none g1
  have hF : forH [] (rng1I (consA (cE (.int 3)) nilA)) (nameB 4) b_law_case4 [some .bag, some (encG ns), some (encNs ns), some (.tup (f.map encO)), none, none, none, none, none, none, none, none] g1 = .ok (.nx [some .bag, some (encG ns), some (encNs ns), some (.tup (f.map encO)), y4, y5, y6, y7, y8, none, none, none]) g2 := by
    rw [forH_of (rng1_nat (k := 3) rfl (by decide))]
    exact hn
  obtain ⟨g3, hend⟩ := case_end h hl y4 y5 y6 y7 y8 none none none g2
  refine ⟨g3, fnD_ok (env := [some .bag, none, none, none, none, none, none, none, none, none, none, none]) rfl ?_⟩
  unfold s__law_case
  rw [seqS_ok hA, seqS_of hB, seqS_of hC, seqS_of hD, seqS_of hE, seqS_ok hF]
  exact hend
theorem test_ok : ∀ g, t_law [none, none] g = .ok false g := fun g => rfl
theorem case_ok : ∀ (ns : List Int) (k : Int), 0 ≤ k → k < 3 → ∃ g', r__law_case [.bag] (bagOf ns k) = .ok (.bl true) g' := fun ns k _ _ => case_at _
end K80

/-! K80e: what the top has written. -/
namespace K80
open PySem PySem.Spec L2 RZ VS
open PyProof.Rows hiding St
theorem all_mk {P : Program} {w : World} {K : PySem.W.Frag} {h : Heap} {mg : Str → Option Value} {fa : Addr} (X : K.In h) (G : h.Ns mainGlobals mg) (hfa : mg "law" = some (.ref fa))
    {f0 : Addr} {oc0 kV0 dc0 pm0 cd0 ct0 : Value} {od0 an0 : Option Addr} {sl0 : Array (Option Value)}
    {f1 : Addr} {oc1 kV1 dc1 pm1 cd1 ct1 : Value} {od1 an1 : Option Addr} {sl1 : Array (Option Value)}
    {f2 : Addr} {oc2 kV2 dc2 pm2 cd2 ct2 : Value} {od2 an2 : Option Addr} {sl2 : Array (Option Value)}
    {f3 : Addr} {oc3 kV3 dc3 pm3 cd3 ct3 : Value} {od3 an3 : Option Addr} {sl3 : Array (Option Value)}
    {f4 : Addr} {oc4 kV4 dc4 pm4 cd4 ct4 : Value} {od4 an4 : Option Addr} {sl4 : Array (Option Value)}
    {f5 : Addr} {oc5 kV5 dc5 pm5 cd5 ct5 : Value} {od5 an5 : Option Addr} {sl5 : Array (Option Value)}
    {f6 : Addr} {oc6 kV6 dc6 pm6 cd6 ct6 : Value} {od6 an6 : Option Addr} {sl6 : Array (Option Value)}
    {f7 : Addr} {oc7 kV7 dc7 pm7 cd7 ct7 : Value} {od7 an7 : Option Addr} {sl7 : Array (Option Value)}
    {f8 : Addr} {oc8 kV8 dc8 pm8 cd8 ct8 : Value} {od8 an8 : Option Addr} {sl8 : Array (Option Value)}
    {f9 : Addr} {oc9 kV9 dc9 pm9 cd9 ct9 : Value} {od9 an9 : Option Addr} {sl9 : Array (Option Value)}
    {f10 : Addr} {oc10 kV10 dc10 pm10 cd10 ct10 : Value} {od10 an10 : Option Addr} {sl10 : Array (Option Value)}
    {f11 : Addr} {oc11 kV11 dc11 pm11 cd11 ct11 : Value} {od11 an11 : Option Addr} {sl11 : Array (Option Value)}
    {f12 : Addr} {oc12 kV12 dc12 pm12 cd12 ct12 : Value} {od12 an12 : Option Addr} {sl12 : Array (Option Value)}
    {f13 : Addr} {oc13 kV13 dc13 pm13 cd13 ct13 : Value} {od13 an13 : Option Addr} {sl13 : Array (Option Value)}
    {f14 : Addr} {oc14 kV14 dc14 pm14 cd14 ct14 : Value} {od14 an14 : Option Addr} {sl14 : Array (Option Value)}
    {f15 : Addr} {oc15 kV15 dc15 pm15 cd15 ct15 : Value} {od15 an15 : Option Addr} {sl15 : Array (Option Value)}
    {f16 : Addr} {oc16 kV16 dc16 pm16 cd16 ct16 : Value} {od16 an16 : Option Addr} {sl16 : Array (Option Value)}
    {f17 : Addr} {oc17 kV17 dc17 pm17 cd17 ct17 : Value} {od17 an17 : Option Addr} {sl17 : Array (Option Value)}
    {f18 : Addr} {oc18 kV18 dc18 pm18 cd18 ct18 : Value} {od18 an18 : Option Addr} {sl18 : Array (Option Value)}
    {f19 : Addr} {oc19 kV19 dc19 pm19 cd19 ct19 : Value} {od19 an19 : Option Addr} {sl19 : Array (Option Value)}
    {f20 : Addr} {oc20 kV20 dc20 pm20 cd20 ct20 : Value} {od20 an20 : Option Addr} {sl20 : Array (Option Value)}
    {C21 f21 N21 : Addr} {nm21 q21 : Str} {bs21 bm21 sub21 : List Value} {sn21 : List Str} {ab21 : Bool} {col21 : Option Bool} {dd21 : Option Addr} {m021 m121 m221 m321 m521 : Option Value} {oc21 kV21 dc21 pm21 cd21 ct21 : Value} {od21 an21 : Option Addr} {sl21 : Array (Option Value)}
    {C22 f22 N22 : Addr} {nm22 q22 : Str} {bs22 bm22 sub22 : List Value} {sn22 : List Str} {ab22 : Bool} {col22 : Option Bool} {dd22 : Option Addr} {m022 m122 m222 m322 m522 : Option Value} {oc22 kV22 dc22 pm22 cd22 ct22 : Value} {od22 an22 : Option Addr} {sl22 : Array (Option Value)}
    {t_MOST_WEIGHED : Tok}
    {t_MOST_WEIGHT : Tok}
    (a0 : PySem.W.nsIn K mainGlobals "is_integer" = some (some (.ref f0)))
    (l0 : K.lookup f0 = some ⟨oc0, od0, .func (PySem.W.fnOf "is_integer" "is_integer" (defArgs st_is_integer) (defBody st_is_integer) (defScope st_is_integer) .none kV0 dc0 pm0 an0 cd0 ct0), sl0⟩)
    (c0 : PySem.W.codeIn K cd0 "is_integer" = true)
    (k0 : PySem.W.keepIn K (.ref f0) = true)
    (a1 : PySem.W.nsIn K mainGlobals "is_way" = some (some (.ref f1)))
    (l1 : K.lookup f1 = some ⟨oc1, od1, .func (PySem.W.fnOf "is_way" "is_way" (defArgs st_is_way) (defBody st_is_way) (defScope st_is_way) .none kV1 dc1 pm1 an1 cd1 ct1), sl1⟩)
    (c1 : PySem.W.codeIn K cd1 "is_way" = true)
    (k1 : PySem.W.keepIn K (.ref f1) = true)
    (a2 : PySem.W.nsIn K mainGlobals "is_weighing" = some (some (.ref f2)))
    (l2 : K.lookup f2 = some ⟨oc2, od2, .func (PySem.W.fnOf "is_weighing" "is_weighing" (defArgs st_is_weighing) (defBody st_is_weighing) (defScope st_is_weighing) .none kV2 dc2 pm2 an2 cd2 ct2), sl2⟩)
    (c2 : PySem.W.codeIn K cd2 "is_weighing" = true)
    (k2 : PySem.W.keepIn K (.ref f2) = true)
    (a3 : PySem.W.nsIn K mainGlobals "look_at" = some (some (.ref f3)))
    (l3 : K.lookup f3 = some ⟨oc3, od3, .func (PySem.W.fnOf "look_at" "look_at" (defArgs st_look_at) (defBody st_look_at) (defScope st_look_at) .none kV3 dc3 pm3 an3 cd3 ct3), sl3⟩)
    (c3 : PySem.W.codeIn K cd3 "look_at" = true)
    (k3 : PySem.W.keepIn K (.ref f3) = true)
    (a4 : PySem.W.nsIn K mainGlobals "due_of" = some (some (.ref f4)))
    (l4 : K.lookup f4 = some ⟨oc4, od4, .func (PySem.W.fnOf "due_of" "due_of" (defArgs st_due_of) (defBody st_due_of) (defScope st_due_of) .none kV4 dc4 pm4 an4 cd4 ct4), sl4⟩)
    (c4 : PySem.W.codeIn K cd4 "due_of" = true)
    (k4 : PySem.W.keepIn K (.ref f4) = true)
    (a5 : PySem.W.nsIn K mainGlobals "credits_of" = some (some (.ref f5)))
    (l5 : K.lookup f5 = some ⟨oc5, od5, .func (PySem.W.fnOf "credits_of" "credits_of" (defArgs st_credits_of) (defBody st_credits_of) (defScope st_credits_of) .none kV5 dc5 pm5 an5 cd5 ct5), sl5⟩)
    (c5 : PySem.W.codeIn K cd5 "credits_of" = true)
    (k5 : PySem.W.keepIn K (.ref f5) = true)
    (a6 : PySem.W.nsIn K mainGlobals "energies" = some (some (.ref f6)))
    (l6 : K.lookup f6 = some ⟨oc6, od6, .func (PySem.W.fnOf "energies" "energies" (defArgs st_energies) (defBody st_energies) (defScope st_energies) .none kV6 dc6 pm6 an6 cd6 ct6), sl6⟩)
    (c6 : PySem.W.codeIn K cd6 "energies" = true)
    (k6 : PySem.W.keepIn K (.ref f6) = true)
    (a7 : PySem.W.nsIn K mainGlobals "judge_energies" = some (some (.ref f7)))
    (l7 : K.lookup f7 = some ⟨oc7, od7, .func (PySem.W.fnOf "judge_energies" "judge_energies" (defArgs st_judge_energies) (defBody st_judge_energies) (defScope st_judge_energies) .none kV7 dc7 pm7 an7 cd7 ct7), sl7⟩)
    (c7 : PySem.W.codeIn K cd7 "judge_energies" = true)
    (k7 : PySem.W.keepIn K (.ref f7) = true)
    (a8 : PySem.W.nsIn K mainGlobals "_law_bag" = some (some (.ref f8)))
    (l8 : K.lookup f8 = some ⟨oc8, od8, .func (PySem.W.fnOf "_law_bag" "_law_bag" (defArgs st__law_bag) (defBody st__law_bag) (defScope st__law_bag) .none kV8 dc8 pm8 an8 cd8 ct8), sl8⟩)
    (c8 : PySem.W.codeIn K cd8 "_law_bag" = true)
    (k8 : PySem.W.keepIn K (.ref f8) = true)
    (a9 : PySem.W.nsIn K mainGlobals "_law_draw" = some (some (.ref f9)))
    (l9 : K.lookup f9 = some ⟨oc9, od9, .func (PySem.W.fnOf "_law_draw" "_law_draw" (defArgs st__law_draw) (defBody st__law_draw) (defScope st__law_draw) .none kV9 dc9 pm9 an9 cd9 ct9), sl9⟩)
    (c9 : PySem.W.codeIn K cd9 "_law_draw" = true)
    (k9 : PySem.W.keepIn K (.ref f9) = true)
    (a10 : PySem.W.nsIn K mainGlobals "_law_weighing" = some (some (.ref f10)))
    (l10 : K.lookup f10 = some ⟨oc10, od10, .func (PySem.W.fnOf "_law_weighing" "_law_weighing" (defArgs st__law_weighing) (defBody st__law_weighing) (defScope st__law_weighing) .none kV10 dc10 pm10 an10 cd10 ct10), sl10⟩)
    (c10 : PySem.W.codeIn K cd10 "_law_weighing" = true)
    (k10 : PySem.W.keepIn K (.ref f10) = true)
    (a11 : PySem.W.nsIn K mainGlobals "_law_choices" = some (some (.ref f11)))
    (l11 : K.lookup f11 = some ⟨oc11, od11, .func (PySem.W.fnOf "_law_choices" "_law_choices" (defArgs st__law_choices) (defBody st__law_choices) (defScope st__law_choices) .none kV11 dc11 pm11 an11 cd11 ct11), sl11⟩)
    (c11 : PySem.W.codeIn K cd11 "_law_choices" = true)
    (k11 : PySem.W.keepIn K (.ref f11) = true)
    (a12 : PySem.W.nsIn K mainGlobals "_law_edges" = some (some (.ref f12)))
    (l12 : K.lookup f12 = some ⟨oc12, od12, .func (PySem.W.fnOf "_law_edges" "_law_edges" (defArgs st__law_edges) (defBody st__law_edges) (defScope st__law_edges) .none kV12 dc12 pm12 an12 cd12 ct12), sl12⟩)
    (c12 : PySem.W.codeIn K cd12 "_law_edges" = true)
    (k12 : PySem.W.keepIn K (.ref f12) = true)
    (a13 : PySem.W.nsIn K mainGlobals "_law_rounds" = some (some (.ref f13)))
    (l13 : K.lookup f13 = some ⟨oc13, od13, .func (PySem.W.fnOf "_law_rounds" "_law_rounds" (defArgs st__law_rounds) (defBody st__law_rounds) (defScope st__law_rounds) .none kV13 dc13 pm13 an13 cd13 ct13), sl13⟩)
    (c13 : PySem.W.codeIn K cd13 "_law_rounds" = true)
    (k13 : PySem.W.keepIn K (.ref f13) = true)
    (a14 : PySem.W.nsIn K mainGlobals "_law_due" = some (some (.ref f14)))
    (l14 : K.lookup f14 = some ⟨oc14, od14, .func (PySem.W.fnOf "_law_due" "_law_due" (defArgs st__law_due) (defBody st__law_due) (defScope st__law_due) .none kV14 dc14 pm14 an14 cd14 ct14), sl14⟩)
    (c14 : PySem.W.codeIn K cd14 "_law_due" = true)
    (k14 : PySem.W.keepIn K (.ref f14) = true)
    (a15 : PySem.W.nsIn K mainGlobals "_law_energies" = some (some (.ref f15)))
    (l15 : K.lookup f15 = some ⟨oc15, od15, .func (PySem.W.fnOf "_law_energies" "_law_energies" (defArgs st__law_energies) (defBody st__law_energies) (defScope st__law_energies) .none kV15 dc15 pm15 an15 cd15 ct15), sl15⟩)
    (c15 : PySem.W.codeIn K cd15 "_law_energies" = true)
    (k15 : PySem.W.keepIn K (.ref f15) = true)
    (a16 : PySem.W.nsIn K mainGlobals "_law_is_saved" = some (some (.ref f16)))
    (l16 : K.lookup f16 = some ⟨oc16, od16, .func (PySem.W.fnOf "_law_is_saved" "_law_is_saved" (defArgs st__law_is_saved) (defBody st__law_is_saved) (defScope st__law_is_saved) .none kV16 dc16 pm16 an16 cd16 ct16), sl16⟩)
    (c16 : PySem.W.codeIn K cd16 "_law_is_saved" = true)
    (k16 : PySem.W.keepIn K (.ref f16) = true)
    (a17 : PySem.W.nsIn K mainGlobals "_law_is_enough" = some (some (.ref f17)))
    (l17 : K.lookup f17 = some ⟨oc17, od17, .func (PySem.W.fnOf "_law_is_enough" "_law_is_enough" (defArgs st__law_is_enough) (defBody st__law_is_enough) (defScope st__law_is_enough) .none kV17 dc17 pm17 an17 cd17 ct17), sl17⟩)
    (c17 : PySem.W.codeIn K cd17 "_law_is_enough" = true)
    (k17 : PySem.W.keepIn K (.ref f17) = true)
    (a18 : PySem.W.nsIn K mainGlobals "_law_told" = some (some (.ref f18)))
    (l18 : K.lookup f18 = some ⟨oc18, od18, .func (PySem.W.fnOf "_law_told" "_law_told" (defArgs st__law_told) (defBody st__law_told) (defScope st__law_told) .none kV18 dc18 pm18 an18 cd18 ct18), sl18⟩)
    (c18 : PySem.W.codeIn K cd18 "_law_told" = true)
    (k18 : PySem.W.keepIn K (.ref f18) = true)
    (a19 : PySem.W.nsIn K mainGlobals "_law_case" = some (some (.ref f19)))
    (l19 : K.lookup f19 = some ⟨oc19, od19, .func (PySem.W.fnOf "_law_case" "_law_case" (defArgs st__law_case) (defBody st__law_case) (defScope st__law_case) .none kV19 dc19 pm19 an19 cd19 ct19), sl19⟩)
    (c19 : PySem.W.codeIn K cd19 "_law_case" = true)
    (k19 : PySem.W.keepIn K (.ref f19) = true)
    (a20 : PySem.W.nsIn K mainGlobals "law" = some (some (.ref f20)))
    (l20 : K.lookup f20 = some ⟨oc20, od20, .func (PySem.W.fnOf "law" "law" (defArgs st_law) (defBody st_law) (defScope st_law) .none kV20 dc20 pm20 an20 cd20 ct20), sl20⟩)
    (c20 : PySem.W.codeIn K cd20 "law" = true)
    (k20 : PySem.W.keepIn K (.ref f20) = true)
    (aC21 : PySem.W.nsIn K mainGlobals "BadGame" = some (some (.ref C21)))
    (xL21 : K.lookup C21 = some (PySem.excClassObj nm21 q21 C21 N21 bs21 bm21 true sn21 sub21 ab21 col21 dd21 m021 m121 m221 m321 m521 "ValueError.__new__"))
    (rb21 : HandSPX.refsVE bm21 = true)
    (sa21 : PySem.W.findIn K (.ref C21) "__setattr__" = some (some (.builtin "object.__setattr__")))
    (ga21 : PySem.W.findIn K (.ref C21) "__getattribute__" = some (some (.builtin "BaseException.__getattribute__")))
    (gg21 : PySem.W.findIn K (.ref C21) "__getattr__" = some none)
    (nb21 : PySem.W.findIn K (.ref C21) "place" = some none)
    (ai21 : PySem.W.findIn K (.ref C21) "__init__" = some (some (.ref f21)))
    (ti21 : PySem.W.typeIn K (.ref f21) = some (.type "function"))
    (l21 : K.lookup f21 = some ⟨oc21, od21, .func (PySem.W.fnOf "__init__" "BadGame.__init__" (defArgs st_ini_BadGame) (defBody st_ini_BadGame) (defScope st_ini_BadGame) .none kV21 dc21 pm21 an21 cd21 ct21), sl21⟩)
    (c21 : PySem.W.codeIn K cd21 "BadGame.__init__" = true)
    (k21 : PySem.W.keepIn K (.ref f21) = true)
    (kC21 : PySem.W.keepIn K (.ref C21) = true)
    (eC21 : PySem.W.subIn K (.ref C21) (.type "BaseException") = some true)
    (tC21 : PySem.W.typeIn K (.ref C21) = some (.type "type"))
    (hC21 : PySem.W.hasDictIn K C21 = true)
    (ss21 : PySem.W.subIn K (.ref C21) (.ref C21) = some true)
    (aC22 : PySem.W.nsIn K mainGlobals "BadPaper" = some (some (.ref C22)))
    (xL22 : K.lookup C22 = some (PySem.excClassObj nm22 q22 C22 N22 bs22 bm22 true sn22 sub22 ab22 col22 dd22 m022 m122 m222 m322 m522 "ValueError.__new__"))
    (rb22 : HandSPX.refsVE bm22 = true)
    (sa22 : PySem.W.findIn K (.ref C22) "__setattr__" = some (some (.builtin "object.__setattr__")))
    (ga22 : PySem.W.findIn K (.ref C22) "__getattribute__" = some (some (.builtin "BaseException.__getattribute__")))
    (gg22 : PySem.W.findIn K (.ref C22) "__getattr__" = some none)
    (nb22 : PySem.W.findIn K (.ref C22) "word" = some none)
    (ai22 : PySem.W.findIn K (.ref C22) "__init__" = some (some (.ref f22)))
    (ti22 : PySem.W.typeIn K (.ref f22) = some (.type "function"))
    (l22 : K.lookup f22 = some ⟨oc22, od22, .func (PySem.W.fnOf "__init__" "BadPaper.__init__" (defArgs st_ini_BadPaper) (defBody st_ini_BadPaper) (defScope st_ini_BadPaper) .none kV22 dc22 pm22 an22 cd22 ct22), sl22⟩)
    (c22 : PySem.W.codeIn K cd22 "BadPaper.__init__" = true)
    (k22 : PySem.W.keepIn K (.ref f22) = true)
    (kC22 : PySem.W.keepIn K (.ref C22) = true)
    (eC22 : PySem.W.subIn K (.ref C22) (.type "BaseException") = some true)
    (tC22 : PySem.W.typeIn K (.ref C22) = some (.type "type"))
    (hC22 : PySem.W.hasDictIn K C22 = true)
    (ss22 : PySem.W.subIn K (.ref C22) (.ref C22) = some true)
    (z_all : PySem.W.nsIn K mainGlobals "all" = some none)
    (z_bool : PySem.W.nsIn K mainGlobals "bool" = some none)
    (z_dict : PySem.W.nsIn K mainGlobals "dict" = some none)
    (z_enumerate : PySem.W.nsIn K mainGlobals "enumerate" = some none)
    (z_int : PySem.W.nsIn K mainGlobals "int" = some none)
    (z_isinstance : PySem.W.nsIn K mainGlobals "isinstance" = some none)
    (z_len : PySem.W.nsIn K mainGlobals "len" = some none)
    (z_list : PySem.W.nsIn K mainGlobals "list" = some none)
    (z_max : PySem.W.nsIn K mainGlobals "max" = some none)
    (z_min : PySem.W.nsIn K mainGlobals "min" = some none)
    (z_range : PySem.W.nsIn K mainGlobals "range" = some none)
    (z_sorted : PySem.W.nsIn K mainGlobals "sorted" = some none)
    (z_sum : PySem.W.nsIn K mainGlobals "sum" = some none)
    (z_tuple : PySem.W.nsIn K mainGlobals "tuple" = some none)
    (z_zip : PySem.W.nsIn K mainGlobals "zip" = some none)
    (g_MOST_WEIGHED : PySem.W.nsIn K mainGlobals "MOST_WEIGHED" = some (some (.int 24 t_MOST_WEIGHED)))
    (g_MOST_WEIGHT : PySem.W.nsIn K mainGlobals "MOST_WEIGHT" = some (some (.int 20 t_MOST_WEIGHT)))
    (no10 : PySem.W.subIn K (.ref C22) (.ref C21) = some false)
    (htest : ∀ g, t_law [none, none] g = .ok false g) (hcase : ∀ (ns : List Int) (k : Int), 0 ≤ k → k < 3 → ∃ g', r__law_case [.bag] (bagOf ns k) = .ok (.bl true) g') :
    ∃ fd : FuncData, (∀ (s : Shared) (v : Value), BindsTo s fd ⟨[v], []⟩ [("script", v)]) ∧ ∀ base : Heap, K.In base → base.Ns mainGlobals mg → FnOk P w K mg base (L2.CX P w) 8 fa fd ["script"] (spLaw K) := by
  have e := hfa.symm.trans (PySem.W.mg_of X G a20)
  cases e
  have F0 := fun_mk (st := st_is_integer) l0 c0 k0
  have b0 := F0.binds (ps := p_is_integer) fun _ _ _ _ _ _ us hl => match us, hl with | [_, _, _], _ => rfl
  have F1 := fun_mk (st := st_is_way) l1 c1 k1
  have b1 := F1.binds (ps := p_is_way) fun _ _ _ _ _ _ us hl => match us, hl with | [_, _], _ => rfl
  have F2 := fun_mk (st := st_is_weighing) l2 c2 k2
  have b2 := F2.binds (ps := p_is_weighing) fun _ _ _ _ _ _ us hl => match us, hl with | [_], _ => rfl
  have F3 := fun_mk (st := st_look_at) l3 c3 k3
  have b3 := F3.binds (ps := p_look_at) fun _ _ _ _ _ _ us hl => match us, hl with | [_], _ => rfl
  have F4 := fun_mk (st := st_due_of) l4 c4 k4
  have b4 := F4.binds (ps := p_due_of) fun _ _ _ _ _ _ us hl => match us, hl with | [_, _], _ => rfl
  have F5 := fun_mk (st := st_credits_of) l5 c5 k5
  have b5 := F5.binds (ps := p_credits_of) fun _ _ _ _ _ _ us hl => match us, hl with | [_], _ => rfl
  have F6 := fun_mk (st := st_energies) l6 c6 k6
  have b6 := F6.binds (ps := p_energies) fun _ _ _ _ _ _ us hl => match us, hl with | [_], _ => rfl
  have F7 := fun_mk (st := st_judge_energies) l7 c7 k7
  have b7 := F7.binds (ps := p_judge_energies) fun _ _ _ _ _ _ us hl => match us, hl with | [_, _], _ => rfl
  have F8 := fun_mk (st := st__law_bag) l8 c8 k8
  have b8 := F8.binds (ps := p__law_bag) fun _ _ _ _ _ _ us hl => match us, hl with | [_, _], _ => rfl
  have F9 := fun_mk (st := st__law_draw) l9 c9 k9
  have b9 := F9.binds (ps := p__law_draw) fun _ _ _ _ _ _ us hl => match us, hl with | [_, _], _ => rfl
  have F10 := fun_mk (st := st__law_weighing) l10 c10 k10
  have b10 := F10.binds (ps := p__law_weighing) fun _ _ _ _ _ _ us hl => match us, hl with | [_, _, _], _ => rfl
  have F11 := fun_mk (st := st__law_choices) l11 c11 k11
  have b11 := F11.binds (ps := p__law_choices) fun _ _ _ _ _ _ us hl => match us, hl with | [_, _], _ => rfl
  have F12 := fun_mk (st := st__law_edges) l12 c12 k12
  have b12 := F12.binds (ps := p__law_edges) fun _ _ _ _ _ _ us hl => match us, hl with | [_, _], _ => rfl
  have F13 := fun_mk (st := st__law_rounds) l13 c13 k13
  have b13 := F13.binds (ps := p__law_rounds) fun _ _ _ _ _ _ us hl => match us, hl with | [_, _], _ => rfl
  have F14 := fun_mk (st := st__law_due) l14 c14 k14
  have b14 := F14.binds (ps := p__law_due) fun _ _ _ _ _ _ us hl => match us, hl with | [_, _], _ => rfl
  have F15 := fun_mk (st := st__law_energies) l15 c15 k15
  have b15 := F15.binds (ps := p__law_energies) fun _ _ _ _ _ _ us hl => match us, hl with | [_], _ => rfl
  have F16 := fun_mk (st := st__law_is_saved) l16 c16 k16
  have b16 := F16.binds (ps := p__law_is_saved) fun _ _ _ _ _ _ us hl => match us, hl with | [_, _], _ => rfl
  have F17 := fun_mk (st := st__law_is_enough) l17 c17 k17
  have b17 := F17.binds (ps := p__law_is_enough) fun _ _ _ _ _ _ us hl => match us, hl with | [_, _], _ => rfl
  have F18 := fun_mk (st := st__law_told) l18 c18 k18
  have b18 := F18.binds (ps := p__law_told) fun _ _ _ _ _ _ us hl => match us, hl with | [_, _, _], _ => rfl
  have F19 := fun_mk (st := st__law_case) l19 c19 k19
  have b19 := F19.binds (ps := p__law_case) fun _ _ _ _ _ _ us hl => match us, hl with | [_], _ => rfl
  have F20 := fun_mk (st := st_law) l20 c20 k20
  have b20 := F20.binds (ps := p_law) fun _ _ _ _ _ _ us hl => match us, hl with | [_], _ => rfl
  have F21 := fun_mk (st := st_ini_BadGame) l21 c21 k21
  have b21 := F21.binds (ps := ["self", "place"]) fun _ _ _ _ _ _ us hl => match us, hl with | [_, _], _ => rfl
  have F22 := fun_mk (st := st_ini_BadPaper) l22 c22 k22
  have b22 := F22.binds (ps := ["self", "word"]) fun _ _ _ _ _ _ us hl => match us, hl with | [_, _], _ => rfl
  exact ⟨_, fun s v => .of_eq rfl, fun base _ _ => ok_law { d_is_integer := ⟨_, _, F0, b0, PySem.W.mg_of X G a0, k0⟩, d_is_way := ⟨_, _, F1, b1, PySem.W.mg_of X G a1, k1⟩, d_is_weighing := ⟨_, _, F2, b2, PySem.W.mg_of X G a2, k2⟩, d_look_at := ⟨_, _, F3, b3, PySem.W.mg_of X G a3, k3⟩, d_due_of := ⟨_, _, F4, b4, PySem.W.mg_of X G a4, k4⟩, d_credits_of := ⟨_, _, F5, b5, PySem.W.mg_of X G a5, k5⟩, d_energies := ⟨_, _, F6, b6, PySem.W.mg_of X G a6, k6⟩, d_judge_energies := ⟨_, _, F7, b7, PySem.W.mg_of X G a7, k7⟩, d__law_bag := ⟨_, _, F8, b8, PySem.W.mg_of X G a8, k8⟩, d__law_draw := ⟨_, _, F9, b9, PySem.W.mg_of X G a9, k9⟩, d__law_weighing := ⟨_, _, F10, b10, PySem.W.mg_of X G a10, k10⟩, d__law_choices := ⟨_, _, F11, b11, PySem.W.mg_of X G a11, k11⟩, d__law_edges := ⟨_, _, F12, b12, PySem.W.mg_of X G a12, k12⟩, d__law_rounds := ⟨_, _, F13, b13, PySem.W.mg_of X G a13, k13⟩, d__law_due := ⟨_, _, F14, b14, PySem.W.mg_of X G a14, k14⟩, d__law_energies := ⟨_, _, F15, b15, PySem.W.mg_of X G a15, k15⟩, d__law_is_saved := ⟨_, _, F16, b16, PySem.W.mg_of X G a16, k16⟩, d__law_is_enough := ⟨_, _, F17, b17, PySem.W.mg_of X G a17, k17⟩, d__law_told := ⟨_, _, F18, b18, PySem.W.mg_of X G a18, k18⟩, d__law_case := ⟨_, _, F19, b19, PySem.W.mg_of X G a19, k19⟩, d_law := ⟨_, _, F20, b20, PySem.W.mg_of X G a20, k20⟩, x_BadGame := ⟨C21, f21, _, ⟨⟨nm21, q21, N21, bs21, bm21, sn21, sub21, ab21, col21, dd21, m021, m121, m221, m321, m521, xL21, rb21⟩, sa21, eC21, tC21, kC21⟩, ai21, ti21, nb21, F21, b21, PySem.W.mg_of X G aC21, ⟨ga21, gg21, eC21, hC21⟩, PySem.W.exm_ref eC21 hC21 tC21 ss21⟩, x_BadPaper := ⟨C22, f22, _, ⟨⟨nm22, q22, N22, bs22, bm22, sn22, sub22, ab22, col22, dd22, m022, m122, m222, m322, m522, xL22, rb22⟩, sa22, eC22, tC22, kC22⟩, ai22, ti22, nb22, F22, b22, PySem.W.mg_of X G aC22, ⟨ga22, gg22, eC22, hC22⟩, PySem.W.exm_ref eC22 hC22 tC22 ss22⟩, b_all := PySem.W.mg_none_of X G z_all, b_bool := PySem.W.mg_none_of X G z_bool, b_dict := PySem.W.mg_none_of X G z_dict, b_enumerate := PySem.W.mg_none_of X G z_enumerate, b_int := PySem.W.mg_none_of X G z_int, b_isinstance := PySem.W.mg_none_of X G z_isinstance, b_len := PySem.W.mg_none_of X G z_len, b_list := PySem.W.mg_none_of X G z_list, b_max := PySem.W.mg_none_of X G z_max, b_min := PySem.W.mg_none_of X G z_min, b_range := PySem.W.mg_none_of X G z_range, b_sorted := PySem.W.mg_none_of X G z_sorted, b_sum := PySem.W.mg_none_of X G z_sum, b_tuple := PySem.W.mg_none_of X G z_tuple, b_zip := PySem.W.mg_none_of X G z_zip, t_MOST_WEIGHED := t_MOST_WEIGHED, g_MOST_WEIGHED := PySem.W.mg_of X G g_MOST_WEIGHED, t_MOST_WEIGHT := t_MOST_WEIGHT, g_MOST_WEIGHT := PySem.W.mg_of X G g_MOST_WEIGHT, no10 := PySem.W.exm_ref eC21 hC21 tC21 no10 } htest hcase⟩
theorem walk {l : PySem.W.OpenLaw} {q : Program} {loose : List Str} {XP : (Str → Option Value) → Heap → Prop} {YP : World → Heap → Prop} {d : DefRec} {K : Params → PySem.W.Frag} (hn : l.most = some 63) (hdf : d.params.defaults = [])
    (hY : ∀ (w : World) (h : Heap), YP w h → (K w.params).In h)
    (F : ∀ (w : World) (mg : Str → Option Value) (fa : Addr) (h : Heap), (K w.params).In h → h.Ns mainGlobals mg → mg d.name = some (.ref fa) →
      ∃ fd : FuncData, (∀ (s : Shared) (u : Value), BindsTo s fd ⟨[u], []⟩ [("script", u)]) ∧ ∀ base : Heap, (K w.params).In base → base.Ns mainGlobals mg → FnOk l.prog w (K w.params) mg base (L2.CX l.prog w) 8 fa fd ["script"] (spLaw (K w.params))) :
    PySem.W.WalkO q loose XP YP l.row.toRowW d [] (fun f vs => PySem.call f vs) :=
  L2.walk_of (n := 63) (k := 8) (x := "script") (CX := fun w => L2.CX l.prog w) (sp := fun w => spLaw (K w.params)) hn (by decide) hdf ⟨rfl, by decide, by decide⟩ hY F (fun _ _ a ns hl _ hS => ⟨a, ns, rfl, hS, hl, fun _ => rfl⟩) fun _ _ _ _ _ z => by
    obtain ⟨_, _, _, _, _, _, _, _, _, _, _, _, z⟩ := z
    exact z
end K80

open PySem PySem.W PyProof.Rows in
set_option maxRecDepth 100000 in
set_option maxHeartbeats 0 in
theorem PySem.Challenge.cw_wordplays_k80_whole_energies_holds : PySem.Challenge.rw_wordplays_k80_whole_energies.Holds := by
  w_on; o_law; k_head; (case hw => w_witness2)
  k_fill
  refine K80.walk (l := PySem.Challenge.rw_wordplays_k80_whole_energies) rfl rfl (fun w h Y => PySem.W.kIn_of Y) ?F
  case F =>
    intro w mg fa h KX G hmg
    refine' K80.all_mk KX G hmg ?a0 ?l0 ?c0 ?k0 ?a1 ?l1 ?c1 ?k1 ?a2 ?l2 ?c2 ?k2 ?a3 ?l3 ?c3 ?k3 ?a4 ?l4 ?c4 ?k4 ?a5 ?l5 ?c5 ?k5 ?a6 ?l6 ?c6 ?k6 ?a7 ?l7 ?c7 ?k7 ?a8 ?l8 ?c8 ?k8 ?a9 ?l9 ?c9 ?k9 ?a10 ?l10 ?c10 ?k10 ?a11 ?l11 ?c11 ?k11 ?a12 ?l12 ?c12 ?k12 ?a13 ?l13 ?c13 ?k13 ?a14 ?l14 ?c14 ?k14 ?a15 ?l15 ?c15 ?k15 ?a16 ?l16 ?c16 ?k16 ?a17 ?l17 ?c17 ?k17 ?a18 ?l18 ?c18 ?k18 ?a19 ?l19 ?c19 ?k19 ?a20 ?l20 ?c20 ?k20 ?aC21 ?xL21 ?rb21 ?sa21 ?ga21 ?gg21 ?nb21 ?ai21 ?ti21 ?l21 ?c21 ?k21 ?kC21 ?eC21 ?tC21 ?hC21 ?ss21 ?aC22 ?xL22 ?rb22 ?sa22 ?ga22 ?gg22 ?nb22 ?ai22 ?ti22 ?l22 ?c22 ?k22 ?kC22 ?eC22 ?tC22 ?hC22 ?ss22 ?z_all ?z_bool ?z_dict ?z_enumerate ?z_int ?z_isinstance ?z_len ?z_list ?z_max ?z_min ?z_range ?z_sorted ?z_sum ?z_tuple ?z_zip ?g_MOST_WEIGHED ?g_MOST_WEIGHT ?no10 ?htest ?hcase
    (case a0 => first | k_is | decide +kernel | rfl)
    (case l0 => first | k_is | decide +kernel | rfl)
    (case c0 => first | k_is | decide +kernel | rfl)
    (case k0 => first | k_is | decide +kernel | rfl)
    (case a1 => first | k_is | decide +kernel | rfl)
    (case l1 => first | k_is | decide +kernel | rfl)
    (case c1 => first | k_is | decide +kernel | rfl)
    (case k1 => first | k_is | decide +kernel | rfl)
    (case a2 => first | k_is | decide +kernel | rfl)
    (case l2 => first | k_is | decide +kernel | rfl)
    (case c2 => first | k_is | decide +kernel | rfl)
    (case k2 => first | k_is | decide +kernel | rfl)
    (case a3 => first | k_is | decide +kernel | rfl)
    (case l3 => first | k_is | decide +kernel | rfl)
    (case c3 => first | k_is | decide +kernel | rfl)
    (case k3 => first | k_is | decide +kernel | rfl)
    (case a4 => first | k_is | decide +kernel | rfl)
    (case l4 => first | k_is | decide +kernel | rfl)
    (case c4 => first | k_is | decide +kernel | rfl)
    (case k4 => first | k_is | decide +kernel | rfl)
    (case a5 => first | k_is | decide +kernel | rfl)
    (case l5 => first | k_is | decide +kernel | rfl)
    (case c5 => first | k_is | decide +kernel | rfl)
    (case k5 => first | k_is | decide +kernel | rfl)
    (case a6 => first | k_is | decide +kernel | rfl)
    (case l6 => first | k_is | decide +kernel | rfl)
    (case c6 => first | k_is | decide +kernel | rfl)
    (case k6 => first | k_is | decide +kernel | rfl)
    (case a7 => first | k_is | decide +kernel | rfl)
    (case l7 => first | k_is | decide +kernel | rfl)
    (case c7 => first | k_is | decide +kernel | rfl)
    (case k7 => first | k_is | decide +kernel | rfl)
    (case a8 => first | k_is | decide +kernel | rfl)
    (case l8 => first | k_is | decide +kernel | rfl)
    (case c8 => first | k_is | decide +kernel | rfl)
    (case k8 => first | k_is | decide +kernel | rfl)
    (case a9 => first | k_is | decide +kernel | rfl)
    (case l9 => first | k_is | decide +kernel | rfl)
    (case c9 => first | k_is | decide +kernel | rfl)
    (case k9 => first | k_is | decide +kernel | rfl)
    (case a10 => first | k_is | decide +kernel | rfl)
    (case l10 => first | k_is | decide +kernel | rfl)
    (case c10 => first | k_is | decide +kernel | rfl)
    (case k10 => first | k_is | decide +kernel | rfl)
    (case a11 => first | k_is | decide +kernel | rfl)
    (case l11 => first | k_is | decide +kernel | rfl)
    (case c11 => first | k_is | decide +kernel | rfl)
    (case k11 => first | k_is | decide +kernel | rfl)
    (case a12 => first | k_is | decide +kernel | rfl)
    (case l12 => first | k_is | decide +kernel | rfl)
    (case c12 => first | k_is | decide +kernel | rfl)
    (case k12 => first | k_is | decide +kernel | rfl)
    (case a13 => first | k_is | decide +kernel | rfl)
    (case l13 => first | k_is | decide +kernel | rfl)
    (case c13 => first | k_is | decide +kernel | rfl)
    (case k13 => first | k_is | decide +kernel | rfl)
    (case a14 => first | k_is | decide +kernel | rfl)
    (case l14 => first | k_is | decide +kernel | rfl)
    (case c14 => first | k_is | decide +kernel | rfl)
    (case k14 => first | k_is | decide +kernel | rfl)
    (case a15 => first | k_is | decide +kernel | rfl)
    (case l15 => first | k_is | decide +kernel | rfl)
    (case c15 => first | k_is | decide +kernel | rfl)
    (case k15 => first | k_is | decide +kernel | rfl)
    (case a16 => first | k_is | decide +kernel | rfl)
    (case l16 => first | k_is | decide +kernel | rfl)
    (case c16 => first | k_is | decide +kernel | rfl)
    (case k16 => first | k_is | decide +kernel | rfl)
    (case a17 => first | k_is | decide +kernel | rfl)
    (case l17 => first | k_is | decide +kernel | rfl)
    (case c17 => first | k_is | decide +kernel | rfl)
    (case k17 => first | k_is | decide +kernel | rfl)
    (case a18 => first | k_is | decide +kernel | rfl)
    (case l18 => first | k_is | decide +kernel | rfl)
    (case c18 => first | k_is | decide +kernel | rfl)
    (case k18 => first | k_is | decide +kernel | rfl)
    (case a19 => first | k_is | decide +kernel | rfl)
    (case l19 => first | k_is | decide +kernel | rfl)
    (case c19 => first | k_is | decide +kernel | rfl)
    (case k19 => first | k_is | decide +kernel | rfl)
    (case a20 => first | k_is | decide +kernel | rfl)
    (case l20 => first | k_is | decide +kernel | rfl)
    (case c20 => first | k_is | decide +kernel | rfl)
    (case k20 => first | k_is | decide +kernel | rfl)
    (case aC21 => first | k_is | decide +kernel | rfl)
    (case xL21 => first | k_is | decide +kernel | rfl)
    (case rb21 => first | k_is | decide +kernel | rfl)
    (case sa21 => first | k_is | decide +kernel | rfl)
    (case ga21 => first | k_is | decide +kernel | rfl)
    (case gg21 => first | k_is | decide +kernel | rfl)
    (case nb21 => first | k_is | decide +kernel | rfl)
    (case ai21 => first | k_is | decide +kernel | rfl)
    (case ti21 => first | k_is | decide +kernel | rfl)
    (case l21 => first | k_is | decide +kernel | rfl)
    (case c21 => first | k_is | decide +kernel | rfl)
    (case k21 => first | k_is | decide +kernel | rfl)
    (case kC21 => first | k_is | decide +kernel | rfl)
    (case eC21 => first | k_is | decide +kernel | rfl)
    (case tC21 => first | k_is | decide +kernel | rfl)
    (case hC21 => first | k_is | decide +kernel | rfl)
    (case ss21 => first | k_is | decide +kernel | rfl)
    (case aC22 => first | k_is | decide +kernel | rfl)
    (case xL22 => first | k_is | decide +kernel | rfl)
    (case rb22 => first | k_is | decide +kernel | rfl)
    (case sa22 => first | k_is | decide +kernel | rfl)
    (case ga22 => first | k_is | decide +kernel | rfl)
    (case gg22 => first | k_is | decide +kernel | rfl)
    (case nb22 => first | k_is | decide +kernel | rfl)
    (case ai22 => first | k_is | decide +kernel | rfl)
    (case ti22 => first | k_is | decide +kernel | rfl)
    (case l22 => first | k_is | decide +kernel | rfl)
    (case c22 => first | k_is | decide +kernel | rfl)
    (case k22 => first | k_is | decide +kernel | rfl)
    (case kC22 => first | k_is | decide +kernel | rfl)
    (case eC22 => first | k_is | decide +kernel | rfl)
    (case tC22 => first | k_is | decide +kernel | rfl)
    (case hC22 => first | k_is | decide +kernel | rfl)
    (case ss22 => first | k_is | decide +kernel | rfl)
    (case z_all => first | k_is | decide +kernel | rfl)
    (case z_bool => first | k_is | decide +kernel | rfl)
    (case z_dict => first | k_is | decide +kernel | rfl)
    (case z_enumerate => first | k_is | decide +kernel | rfl)
    (case z_int => first | k_is | decide +kernel | rfl)
    (case z_isinstance => first | k_is | decide +kernel | rfl)
    (case z_len => first | k_is | decide +kernel | rfl)
    (case z_list => first | k_is | decide +kernel | rfl)
    (case z_max => first | k_is | decide +kernel | rfl)
    (case z_min => first | k_is | decide +kernel | rfl)
    (case z_range => first | k_is | decide +kernel | rfl)
    (case z_sorted => first | k_is | decide +kernel | rfl)
    (case z_sum => first | k_is | decide +kernel | rfl)
    (case z_tuple => first | k_is | decide +kernel | rfl)
    (case z_zip => first | k_is | decide +kernel | rfl)
    (case g_MOST_WEIGHED => first | k_is | decide +kernel | rfl)
    (case g_MOST_WEIGHT => first | k_is | decide +kernel | rfl)
    (case no10 => first | k_is | decide +kernel | rfl)
    (case htest => exact K80.test_ok)
    (case hcase => exact K80.case_ok)
