import PyProof.Rows.All
import Wide.All
import OpenK.AllK
import Wide.FinOn
import HandS.ForMost
import HandS.Exc
import HandS.ExcOwn
import HandS.TryOnly
import HandS.WordsExc
import KE.KDictKeyed
import KE.KeyNested
import HandS.IsInst
import HandS.TupAny
import HandS.TupMul
import KE.DataEq
import HandS.Style
import HandS.Walk
import HandS.Zip
import HandS.Text
import KE.SortData
import KE.DatumOrd
import HandS.More
import KE.KDictDisplayH
import HandS.ExcInit
import PyProof.EnumMake
import PyProof.Draws
import KE.GoesEnum
import HandS.ExcField
import HandS.TryMany
import HandS.CallLocal
import HandS.SetKeys
import HandS.TupLen
import HandS.Deep
import HandS.Small
import PyProof.ExcBaseAll.ValueError
import PySem.Challenge.RW_wordplays_k66_machines_and_breakers
import HandS.Ends
import HandS.ExcIs
set_option Elab.async false
set_option linter.all false
set_option maxRecDepth 100000
set_option maxHeartbeats 4000000
/-! VC1: plain values instead of heaps: D, what stands at an address for a D (R), an expression as a function of the slots (EV). -/
namespace VC
open PySem PySem.Spec L2
open PyProof.Rows hiding St

/-- plain data; bag: the one list that may change while an expression runs -/
inductive D where
  | non | bl (b : Bool) | int (i : Int) | str (x : Str)
  | tup (xs : List D) | lst (xs : List D) | dK (ks : List Key) (xs : List D) | dT (ks : List (List Key)) (xs : List D) | bag
  /-- the n-th of the things that may change, whoever holds them -/
  | cell (n : Nat)

/-- the bag's address, the world -/
structure Bx where
  ad : Option Addr
  w : World
/-- what is frozen, where the cells stand -/
structure Reg where
  fz : Addr → Prop
  cs : List Addr
def Reg.in (F : Reg) (a : Addr) : Prop := F.fz a ∨ a ∈ F.cs
instance : CoeFun Reg fun _ => Addr → Prop := ⟨Reg.in⟩
def Reg.or (F : Reg) (p : Addr → Prop) : Reg := ⟨fun a => F.fz a ∨ p a, F.cs⟩
def Reg.add (F : Reg) (a : Addr) : Reg := ⟨F.fz, F.cs ++ [a]⟩
/-- the one's frozen things, the other's cells -/
def Reg.mix (F F' : Reg) : Reg := ⟨F.fz, F'.cs⟩
structure Reg.le (F F' : Reg) : Prop where
  fz : ∀ a, F.fz a → F'.fz a
  cs : ∃ r, F'.cs = F.cs ++ r
theorem Reg.le.refl (F : Reg) : F.le F := ⟨fun _ h => h, [], (List.append_nil _).symm⟩
theorem Reg.le.rfl {F : Reg} : F.le F := .refl F
theorem Reg.le.trans {F F' F2 : Reg} (a : F.le F') (b : F'.le F2) : F.le F2 := ⟨fun x h => b.fz x (a.fz x h), by
  obtain ⟨r, h⟩ := a.cs
  obtain ⟨r', h'⟩ := b.cs
  exact ⟨r ++ r', by rw [h', h, List.append_assoc]⟩⟩
theorem Reg.le.or (F : Reg) (p : Addr → Prop) : F.le (F.or p) := ⟨fun _ h => .inl h, [], (List.append_nil _).symm⟩
theorem Reg.le.or2 {F F' : Reg} (h : F.le F') {p q : Addr → Prop} (k : ∀ a, p a → q a) : (F.or p).le (F'.or q) := ⟨fun a z => z.elim (fun f => .inl (h.fz a f)) fun z => .inr (k a z), h.cs⟩
theorem Reg.le.add (F : Reg) (a : Addr) : F.le (F.add a) := ⟨fun _ h => h, [a], Eq.refl _⟩
theorem Reg.le.in {F F' : Reg} (h : F.le F') {a : Addr} (f : F a) : F' a := by
  rcases f with f | f
  · exact .inl (h.fz a f)
  · obtain ⟨r, e⟩ := h.cs
    exact .inr (by rw [e]; exact List.mem_append_left _ f)
theorem Reg.le.at {F F' : Reg} (h : F.le F') {n : Nat} {a : Addr} (f : F.cs[n]? = some a) : F'.cs[n]? = some a := by
  obtain ⟨r, e⟩ := h.cs
  rw [e, List.getElem?_append_left (List.getElem?_eq_some_iff.mp f).1]
  exact f
theorem Reg.in_or {F : Reg} {p : Addr → Prop} {a : Addr} : (F.or p) a ↔ F a ∨ p a := by
  constructor
  · rintro ((h | h) | h)
    · exact .inl (.inl h)
    · exact .inr h
    · exact .inl (.inr h)
  · rintro ((h | h) | h)
    · exact .inl (.inl h)
    · exact .inr h
    · exact .inl (.inr h)
theorem Reg.in_add {F : Reg} {b a : Addr} : (F.add b) a ↔ F a ∨ a = b := by
  show F.fz a ∨ a ∈ F.cs ++ [b] ↔ (F.fz a ∨ a ∈ F.cs) ∨ a = b
  rw [List.mem_append, List.mem_singleton, or_assoc]
theorem Reg.in_mix {F F' : Reg} {a : Addr} (h : (F.mix F') a) : F a ∨ a ∈ F'.cs := by
  rcases h with h | h
  · exact .inl (.inl h)
  · exact .inr h
theorem Reg.le.mix {F F' : Reg} (h : ∃ r, F'.cs = F.cs ++ r) : F.le (F.mix F') := ⟨fun _ h => h, h⟩
def kD : Key → D
  | .inl i => .int i
  | .inr x => .str x
def tD (ks : List Key) : D := .tup (ks.map kD)
mutual
def R (H : Hp) (F : Reg) (β : Bx) : D → V → Prop
  | .non, v => v = .non
  | .bl b, v => v = .bl b
  | .int i, v => v = .int i
  | .str x, v => v = .str x
  | .tup xs, v => ∃ a vs, v = .ref a ∧ H a = some (.tup vs) ∧ Rs H F β xs vs
  | .lst xs, v => ∃ a vs, v = .ref a ∧ F.fz a ∧ H a = some (.lst vs) ∧ Rs H F β xs vs
  | .dK ks xs, v => ∃ a kv, v = .ref a ∧ F.fz a ∧ Rd H a (.dK kv) ∧ ks = kv.map (·.1) ∧ Rs H F β xs (kv.map (·.2))
  | .dT ks xs, v => ∃ a kv, v = .ref a ∧ F.fz a ∧ Rd H a (.dT kv) ∧ ks = kv.map (·.1) ∧ Rs H F β xs (kv.map (·.2))
  | .bag, v => ∃ b, β.ad = some b ∧ v = .ref b
  | .cell n, v => ∃ a, F.cs[n]? = some a ∧ v = .ref a
def Rs (H : Hp) (F : Reg) (β : Bx) : List D → List V → Prop
  | [], vs => vs = []
  | d :: ds, vs => ∃ v r, vs = v :: r ∧ R H F β d v ∧ Rs H F β ds r
end
mutual
def flat : D → Bool
  | .tup xs => flats xs
  | .lst _ => false
  | .dK _ _ => false
  | .dT _ _ => false
  | _ => true
def flats : List D → Bool
  | [] => true
  | d :: ds => flat d && flats ds
end

section
variable {H H' : Hp} {F F' : Reg} {β : Bx}
mutual
theorem R.mono (hT : ∀ a xs, H a = some (.tup xs) → H' a = some (.tup xs)) (hF : ∀ a, F.fz a → F'.fz a ∧ ∀ u, H a = some u → H' a = some u) (hc : ∀ (n : Nat) (a : Addr), F.cs[n]? = some a → F'.cs[n]? = some a) : ∀ (d : D) (v : V), R H F β d v → R H' F' β d v
  | .non, _, h => h
  | .bl _, _, h => h
  | .int _, _, h => h
  | .str _, _, h => h
  | .tup xs, v, h => by
    unfold R at h ⊢
    obtain ⟨a, vs, e, q, r⟩ := h
    exact ⟨a, vs, e, hT a vs q, Rs.mono hT hF hc xs vs r⟩
  | .lst xs, v, h => by
    unfold R at h ⊢
    obtain ⟨a, vs, e, f, q, r⟩ := h
    exact ⟨a, vs, e, (hF a f).1, (hF a f).2 _ q, Rs.mono hT hF hc xs vs r⟩
  | .dK ks xs, v, h => by
    unfold R at h ⊢
    obtain ⟨a, kv, e, f, q, ek, r⟩ := h
    exact ⟨a, kv, e, (hF a f).1, q.elim (fun q => .inl ((hF a f).2 _ q)) (fun ⟨o, q⟩ => .inr ⟨o, (hF a f).2 _ q⟩), ek, Rs.mono hT hF hc xs _ r⟩
  | .dT ks xs, v, h => by
    unfold R at h ⊢
    obtain ⟨a, kv, e, f, q, ek, r⟩ := h
    exact ⟨a, kv, e, (hF a f).1, q.elim (fun q => .inl ((hF a f).2 _ q)) (fun ⟨o, q⟩ => .inr ⟨o, (hF a f).2 _ q⟩), ek, Rs.mono hT hF hc xs _ r⟩
  | .bag, _, h => h
  | .cell n, v, h => by
    unfold R at h ⊢
    obtain ⟨a, e, q⟩ := h
    exact ⟨a, hc n a e, q⟩
theorem Rs.mono (hT : ∀ a xs, H a = some (.tup xs) → H' a = some (.tup xs)) (hF : ∀ a, F.fz a → F'.fz a ∧ ∀ u, H a = some u → H' a = some u) (hc : ∀ (n : Nat) (a : Addr), F.cs[n]? = some a → F'.cs[n]? = some a) : ∀ (ds : List D) (vs : List V), Rs H F β ds vs → Rs H' F' β ds vs
  | [], _, h => h
  | d :: ds, vs, h => by
    unfold Rs at h ⊢
    obtain ⟨v, r, e, h1, h2⟩ := h
    exact ⟨v, r, e, R.mono hT hF hc d v h1, Rs.mono hT hF hc ds r h2⟩
end
mutual
theorem R.flat_ (hc : ∀ (n : Nat) (a : Addr), F.cs[n]? = some a → F'.cs[n]? = some a) : ∀ (d : D) (v : V), flat d = true → R H F β d v → R H F' β d v
  | .non, _, _, h => h
  | .bl _, _, _, h => h
  | .int _, _, _, h => h
  | .str _, _, _, h => h
  | .tup xs, v, hf, h => by
    unfold R at h ⊢
    obtain ⟨a, vs, e, q, r⟩ := h
    exact ⟨a, vs, e, q, Rs.flat_ hc xs vs (by simpa [flat] using hf) r⟩
  | .lst xs, v, hf, h => by simp [flat] at hf
  | .dK ks xs, v, hf, h => by simp [flat] at hf
  | .dT ks xs, v, hf, h => by simp [flat] at hf
  | .bag, _, _, h => h
  | .cell n, v, _, h => by
    unfold R at h ⊢
    obtain ⟨a, e, q⟩ := h
    exact ⟨a, hc n a e, q⟩
theorem Rs.flat_ (hc : ∀ (n : Nat) (a : Addr), F.cs[n]? = some a → F'.cs[n]? = some a) : ∀ (ds : List D) (vs : List V), flats ds = true → Rs H F β ds vs → Rs H F' β ds vs
  | [], _, _, h => h
  | d :: ds, vs, hf, h => by
    unfold Rs at h ⊢
    obtain ⟨v, r, e, h1, h2⟩ := h
    simp only [flats, Bool.and_eq_true] at hf
    exact ⟨v, r, e, R.flat_ hc d v hf.1 h1, Rs.flat_ hc ds r hf.2 h2⟩
end
mutual
theorem R.flatT (hT : ∀ a xs, H a = some (.tup xs) → H' a = some (.tup xs)) (hc : ∀ (n : Nat) (a : Addr), F.cs[n]? = some a → F'.cs[n]? = some a) : ∀ (d : D) (v : V), flat d = true → R H F β d v → R H' F' β d v
  | .non, _, _, h => h
  | .bl _, _, _, h => h
  | .int _, _, _, h => h
  | .str _, _, _, h => h
  | .tup xs, v, hf, h => by
    unfold R at h ⊢
    obtain ⟨a, vs, e, q, r⟩ := h
    exact ⟨a, vs, e, hT _ _ q, Rs.flatT hT hc xs vs (by simpa [flat] using hf) r⟩
  | .lst xs, v, hf, h => by simp [flat] at hf
  | .dK ks xs, v, hf, h => by simp [flat] at hf
  | .dT ks xs, v, hf, h => by simp [flat] at hf
  | .bag, _, _, h => h
  | .cell n, v, _, h => by
    unfold R at h ⊢
    obtain ⟨a, e, q⟩ := h
    exact ⟨a, hc n a e, q⟩
theorem Rs.flatT (hT : ∀ a xs, H a = some (.tup xs) → H' a = some (.tup xs)) (hc : ∀ (n : Nat) (a : Addr), F.cs[n]? = some a → F'.cs[n]? = some a) : ∀ (ds : List D) (vs : List V), flats ds = true → Rs H F β ds vs → Rs H' F' β ds vs
  | [], _, _, h => h
  | d :: ds, vs, hf, h => by
    unfold Rs at h ⊢
    obtain ⟨v, r, e, h1, h2⟩ := h
    simp only [flats, Bool.and_eq_true] at hf
    exact ⟨v, r, e, R.flatT hT hc d v hf.1 h1, Rs.flatT hT hc ds r hf.2 h2⟩
end
theorem Rs.length : ∀ {ds : List D} {vs : List V}, Rs H F β ds vs → ds.length = vs.length
  | [], _, h => by unfold Rs at h; subst h; rfl
  | d :: ds, vs, h => by
    unfold Rs at h
    obtain ⟨v, r, e, h1, h2⟩ := h
    subst e
    simp [Rs.length h2]
theorem Rs.get : ∀ {ds : List D} {vs : List V} {i : Nat} {d : D}, Rs H F β ds vs → ds[i]? = some d → ∃ v, vs[i]? = some v ∧ R H F β d v
  | [], _, _, _, _, e => by simp at e
  | d :: ds, vs, 0, d', h, e => by
    unfold Rs at h
    obtain ⟨v, r, e1, h1, h2⟩ := h
    subst e1
    simp at e
    subst e
    exact ⟨v, rfl, h1⟩
  | d :: ds, vs, i + 1, d', h, e => by
    unfold Rs at h
    obtain ⟨v, r, e1, h1, h2⟩ := h
    subst e1
    obtain ⟨u, a, b⟩ := Rs.get (i := i) h2 (by simpa using e)
    exact ⟨u, by simpa using a, b⟩
theorem Rs.getV : ∀ {ds : List D} {vs : List V} {i : Nat} {v : V}, Rs H F β ds vs → vs[i]? = some v → ∃ d, ds[i]? = some d ∧ R H F β d v := fun {ds vs i v} h e => by
  have hl := h.length
  have hi : i < ds.length := by
    rw [hl]
    exact (List.getElem?_eq_some_iff.mp e).1
  obtain ⟨u, e2, r⟩ := h.get (List.getElem?_eq_getElem hi)
  rw [e] at e2
  cases e2
  exact ⟨_, List.getElem?_eq_getElem hi, r⟩
theorem Rs.append : ∀ {ds es : List D} {vs us : List V}, Rs H F β ds vs → Rs H F β es us → Rs H F β (ds ++ es) (vs ++ us)
  | [], _, _, _, h, h' => by unfold Rs at h; subst h; exact h'
  | d :: ds, es, vs, us, h, h' => by
    unfold Rs at h
    obtain ⟨v, r, e1, h1, h2⟩ := h
    subst e1
    show Rs H F β (d :: (ds ++ es)) (v :: (r ++ us))
    unfold Rs
    exact ⟨v, _, rfl, h1, h2.append h'⟩
theorem Rs.nil : Rs H F β [] [] := by unfold Rs; rfl
theorem Rs.cons {d : D} {ds : List D} {v : V} {vs : List V} (h1 : R H F β d v) (h2 : Rs H F β ds vs) : Rs H F β (d :: ds) (v :: vs) := by
  unfold Rs
  exact ⟨v, vs, rfl, h1, h2⟩
theorem Rs.one {d : D} {v : V} (h1 : R H F β d v) : Rs H F β [d] [v] := .cons h1 .nil
theorem Rs.uncons {d : D} {ds : List D} {vs : List V} (h : Rs H F β (d :: ds) vs) : ∃ v r, vs = v :: r ∧ R H F β d v ∧ Rs H F β ds r := by
  unfold Rs at h
  exact h
theorem Rs.take : ∀ {ds : List D} {vs : List V} (n : Nat), Rs H F β ds vs → Rs H F β (ds.take n) (vs.take n)
  | _, _, 0, _ => by simp; exact .nil
  | [], _, n + 1, h => by unfold Rs at h; subst h; simp; exact .nil
  | d :: ds, vs, n + 1, h => by
    obtain ⟨v, r, rfl, h1, h2⟩ := h.uncons
    simp only [List.take_succ_cons]
    exact .cons h1 (h2.take n)
theorem Rs.drop : ∀ {ds : List D} {vs : List V} (n : Nat), Rs H F β ds vs → Rs H F β (ds.drop n) (vs.drop n)
  | _, _, 0, h => by simpa using h
  | [], _, n + 1, h => by unfold Rs at h; subst h; simp; exact .nil
  | d :: ds, vs, n + 1, h => by
    obtain ⟨v, r, rfl, h1, h2⟩ := h.uncons
    simp only [List.drop_succ_cons]
    exact h2.drop n
theorem Rs.set : ∀ {ds : List D} {vs : List V} {d : D} {v : V} (n : Nat), Rs H F β ds vs → R H F β d v → Rs H F β (ds.set n d) (vs.set n v)
  | [], _, _, _, n, h, _ => by unfold Rs at h; subst h; simp; exact .nil
  | e :: ds, vs, d, v, 0, h, q => by
    obtain ⟨v', r, rfl, h1, h2⟩ := h.uncons
    simp only [List.set_cons_zero]
    exact .cons q h2
  | e :: ds, vs, d, v, n + 1, h, q => by
    obtain ⟨v', r, rfl, h1, h2⟩ := h.uncons
    simp only [List.set_cons_succ]
    exact .cons h1 (h2.set n q)
theorem Rs.reverse : ∀ {ds : List D} {vs : List V}, Rs H F β ds vs → Rs H F β ds.reverse vs.reverse
  | [], _, h => by unfold Rs at h; subst h; simp; exact .nil
  | e :: ds, vs, h => by
    obtain ⟨v', r, rfl, h1, h2⟩ := h.uncons
    simp only [List.reverse_cons]
    exact h2.reverse.append (.one h1)
end

/-! ### the state -/
/-- a thing that may change -/
inductive Cell where
  | lst (xs : List D) | dK (ks : List Key) (xs : List D) | dT (ks : List (List Key)) (xs : List D)
  /-- keys: nested tuples -/
  | dN (ks : List NestedKey) (xs : List D)
  /-- an instance of the class at C -/
  | obj (C : Addr) (ns : List Str) (xs : List D)
def Cell.items : Cell → List D
  | .lst xs => xs
  | .dK _ xs => xs
  | .dT _ xs => xs
  | .dN _ xs => xs
  | .obj _ _ xs => xs
/-- the bag's three ints, the cells -/
structure Bag where
  b : Int × Int × Int
  cs : List Cell
inductive Out (α : Type) where
  | bad
  | ok (a : α) (g : Bag)
  | exn (c : Nat) (p : D) (g : Bag)
abbrev M (α : Type) := Bag → Out α
namespace M
def ret {α : Type} (a : α) : M α := fun g => .ok a g
def bad {α : Type} : M α := fun _ => .bad
def bnd {α β : Type} (m : M α) (f : α → M β) : M β := fun g => match m g with
  | .bad => .bad
  | .ok a g' => f a g'
  | .exn c p g' => .exn c p g'
def ofO {α : Type} (o : Option α) : M α := fun g => match o with
  | none => .bad
  | some a => .ok a g
end M
abbrev Slots := List (Option D)
abbrev EX := Slots → M D

/-- what is fixed: the bag's address, what is wanted of an exception, the classes of exceptions -/
structure Fr where
  β : Bx
  W : WX
  xc : Nat → Option (Addr × Option Str)
def bagV (g : Bag) : List V := [.int g.b.1, .int g.b.2.1, .int g.b.2.2]
/-- a key as it lies in the heap -/
inductive NK (H : Hp) : NestedKey → V → Prop
  | non : NK H .none .non
  | bl (b : Bool) : NK H (.num (if b = true then 1 else 0)) (.bl b)
  | int (i : Int) : NK H (.num i) (.int i)
  | str (x : Str) : NK H (.text x) (.str x)
  | tup {a : Addr} {vs : List V} {ks : List NestedKey} : H a = some (.tup vs) → ks.length = vs.length → (∀ (i : Nat) (k : NestedKey) (v : V), ks[i]? = some k → vs[i]? = some v → NK H k v) → NK H (.tup ks) (.ref a)
theorem NK.mono {H H' : Hp} (hT : ∀ a xs, H a = some (.tup xs) → H' a = some (.tup xs)) {k : NestedKey} {v : V} (h : NK H k v) : NK H' k v := by
  induction h with
  | non => exact .non
  | bl b => exact .bl b
  | int i => exact .int i
  | str x => exact .str x
  | tup h1 h2 _ ih => exact .tup (hT _ _ h1) h2 ih
/-- what stands at a dict with nested keys -/
def dictN (w : World) (a : Addr) (es : List (NestedKey × Addr × V)) : Heap → Prop := fun h => es.length ≤ sizeLine ∧ (a == sysModules) = false ∧ ∃ xs : List (NestedKey × Addr × Value), Paired (fun (p : NestedKey × Addr × V) (q : NestedKey × Addr × Value) => p.1 = q.1 ∧ p.2.1 = q.2.1 ∧ RelV p.2.2 q.2.2) es xs ∧
  ∃ o ds ep, h.get? a = some o ∧ o.ExactDict ∧ o.data = .dict ds ep ∧ ds.toList = xs.map (fun x => (⟨x.1.hash w, .ref x.2.1, x.2.2⟩ : DictEntry)) ∧ (xs.map (·.1)).Nodup
/-- how a cell lies -/
def CellAt (H : Hp) (F : Reg) (β : Bx) (a : Addr) : Cell → Prop
  | .lst xs => ∃ vs, H a = some (.lst vs) ∧ Rs H F β xs vs
  | .dK ks xs => ∃ kv, H a = some (.dK kv) ∧ ks = kv.map (·.1) ∧ Rs H F β xs (kv.map (·.2))
  | .dT ks xs => ∃ kv, H a = some (.dT kv) ∧ ks = kv.map (·.1) ∧ Rs H F β xs (kv.map (·.2))
  | .dN ks xs => ∃ es : List (NestedKey × Addr × V), H a = some (.ext (dictN β.w a es)) ∧ (∀ e ∈ es, NK H e.1 (.ref e.2.1) ∧ e.1.depth ≤ 8) ∧ ks = es.map (·.1) ∧ Rs H F β xs (es.map (·.2.2))
  | .obj C ns xs => ∃ dx fs, H a = some (.ins C dx fs) ∧ ns = fs.map (·.1) ∧ Rs H F β xs (fs.map (·.2))
theorem CellAt.mono {H H' : Hp} {F F' : Reg} {β : Bx} {a : Addr} {c : Cell} (h : CellAt H F β a c) (hT : ∀ a xs, H a = some (.tup xs) → H' a = some (.tup xs)) (hF : ∀ a, F.fz a → F'.fz a ∧ ∀ u, H a = some u → H' a = some u) (hc : ∀ (n : Nat) (a : Addr), F.cs[n]? = some a → F'.cs[n]? = some a) (ha : ∀ u, H a = some u → H' a = some u) : CellAt H' F' β a c := by
  cases c with
  | lst xs => obtain ⟨vs, h1, h2⟩ := h; exact ⟨vs, ha _ h1, Rs.mono hT hF hc _ _ h2⟩
  | dK ks xs => obtain ⟨vs, h1, h2, h3⟩ := h; exact ⟨vs, ha _ h1, h2, Rs.mono hT hF hc _ _ h3⟩
  | dT ks xs => obtain ⟨vs, h1, h2, h3⟩ := h; exact ⟨vs, ha _ h1, h2, Rs.mono hT hF hc _ _ h3⟩
  | dN ks xs => obtain ⟨es, h1, h2, h3, h4⟩ := h; exact ⟨es, ha _ h1, fun e he => ⟨(h2 e he).1.mono hT, (h2 e he).2⟩, h3, Rs.mono hT hF hc _ _ h4⟩
  | obj C ns xs => obtain ⟨dx, fs, h1, h2, h3⟩ := h; exact ⟨dx, fs, ha _ h1, h2, Rs.mono hT hF hc _ _ h3⟩
theorem CellAt.flat_ {H : Hp} {F F' : Reg} {β : Bx} {a : Addr} {c : Cell} (h : CellAt H F β a c) (fl : flats c.items = true) (hc : ∀ (n : Nat) (a : Addr), F.cs[n]? = some a → F'.cs[n]? = some a) : CellAt H F' β a c := by
  cases c with
  | lst xs => obtain ⟨vs, h1, h2⟩ := h; exact ⟨vs, h1, Rs.flat_ hc _ _ fl h2⟩
  | dK ks xs => obtain ⟨vs, h1, h2, h3⟩ := h; exact ⟨vs, h1, h2, Rs.flat_ hc _ _ fl h3⟩
  | dT ks xs => obtain ⟨vs, h1, h2, h3⟩ := h; exact ⟨vs, h1, h2, Rs.flat_ hc _ _ fl h3⟩
  | dN ks xs => obtain ⟨es, h1, h2, h3, h4⟩ := h; exact ⟨es, h1, h2, h3, Rs.flat_ hc _ _ fl h4⟩
  | obj C ns xs => obtain ⟨dx, fs, h1, h2, h3⟩ := h; exact ⟨dx, fs, h1, h2, Rs.flat_ hc _ _ fl h3⟩
theorem CellAt.flatT {H H' : Hp} {F F' : Reg} {β : Bx} {a : Addr} {c : Cell} (h : CellAt H F β a c) (fl : flats c.items = true) (hT : ∀ a xs, H a = some (.tup xs) → H' a = some (.tup xs)) (hc : ∀ (n : Nat) (a : Addr), F.cs[n]? = some a → F'.cs[n]? = some a) (ha : ∀ u, H a = some u → H' a = some u) : CellAt H' F' β a c := by
  cases c with
  | lst xs => obtain ⟨vs, h1, h2⟩ := h; exact ⟨vs, ha _ h1, Rs.flatT hT hc _ _ fl h2⟩
  | dK ks xs => obtain ⟨vs, h1, h2, h3⟩ := h; exact ⟨vs, ha _ h1, h2, Rs.flatT hT hc _ _ fl h3⟩
  | dT ks xs => obtain ⟨vs, h1, h2, h3⟩ := h; exact ⟨vs, ha _ h1, h2, Rs.flatT hT hc _ _ fl h3⟩
  | dN ks xs => obtain ⟨es, h1, h2, h3, h4⟩ := h; exact ⟨es, ha _ h1, fun e he => ⟨(h2 e he).1.mono hT, (h2 e he).2⟩, h3, Rs.flatT hT hc _ _ fl h4⟩
  | obj C ns xs => obtain ⟨dx, fs, h1, h2, h3⟩ := h; exact ⟨dx, fs, ha _ h1, h2, Rs.flatT hT hc _ _ fl h3⟩
theorem CellAt.there {H : Hp} {F : Reg} {β : Bx} {a : Addr} {c : Cell} (h : CellAt H F β a c) : ∃ u, H a = some u ∧ ∀ xs, u ≠ .tup xs := by
  cases c with
  | lst xs => obtain ⟨vs, h1, _⟩ := h; exact ⟨_, h1, fun _ z => nomatch z⟩
  | dK ks xs => obtain ⟨vs, h1, _⟩ := h; exact ⟨_, h1, fun _ z => nomatch z⟩
  | dT ks xs => obtain ⟨vs, h1, _⟩ := h; exact ⟨_, h1, fun _ z => nomatch z⟩
  | dN ks xs => obtain ⟨es, h1, _⟩ := h; exact ⟨_, h1, fun _ z => nomatch z⟩
  | obj C ns xs => obtain ⟨dx, fs, h1, _⟩ := h; exact ⟨_, h1, fun _ z => nomatch z⟩
structure Ext (β : Bx) (F : Reg) (H : Hp) (F' : Reg) (H' : Hp) : Prop where
  mono : F.le F'
  newf : ∀ a, F'.fz a → F.fz a ∨ H a = none
  newc : ∀ a, a ∈ F'.cs → a ∈ F.cs ∨ H a = none
  keep : ∀ a o, H a = some o → some a ≠ β.ad → a ∉ F.cs → H' a = some o
  there : ∀ a, H' a = none → H a = none
theorem Ext.new {β : Bx} {F F' : Reg} {H H' : Hp} (e : Ext β F H F' H') (a : Addr) (h : F' a) : F a ∨ H a = none := by
  rcases h with h | h
  · exact (e.newf a h).imp .inl id
  · exact (e.newc a h).imp .inr id
structure BagOk (β : Bx) (F : Reg) (H : Hp) (g : Bag) : Prop where
  live : ∀ a, F a → H a ≠ none
  at_ : ∀ b, β.ad = some b → ¬ F b ∧ H b = some (.lst (bagV g))
  len : F.cs.length = g.cs.length
  nd : F.cs.Nodup
  nf : ∀ a, a ∈ F.cs → ¬ F.fz a
  cell : ∀ (n : Nat) (a : Addr) (c : Cell), F.cs[n]? = some a → g.cs[n]? = some c → CellAt H F β a c
  fl : ∀ c ∈ g.cs, flats c.items = true
theorem Ext.refl (β : Bx) (F : Reg) (H : Hp) : Ext β F H F H := ⟨Reg.le.rfl, fun _ h => .inl h, fun _ h => .inl h, fun _ _ h _ _ => h, fun _ h => h⟩
theorem Ext.trans {β : Bx} {F F1 F2 : Reg} {H H1 H2 : Hp} (a : Ext β F H F1 H1) (b : Ext β F1 H1 F2 H2) : Ext β F H F2 H2 :=
  ⟨a.mono.trans b.mono, fun x h => (b.newf x h).elim (fun q => a.newf x q) fun q => .inr (a.there x q), fun x h => (b.newc x h).elim (fun q => a.newc x q) fun q => .inr (a.there x q),
    fun x o h n m => b.keep x o (a.keep x o h n m) n fun z => (a.newc x z).elim m fun q => (by rw [h] at q; cases q), fun x h => a.there x (b.there x h)⟩
theorem there_put {H : Hp} {p a : Addr} {o : HO} (hp : H p = none) (h : upd H p o a = none) : H a = none := by
  by_cases e : a = p
  · rw [e]; exact hp
  · rw [upd_ne e] at h; exact h
/-- a new object beside -/
theorem Ext.put {β : Bx} {F : Reg} {H : Hp} {p : Addr} {o : HO} (hp : H p = none) : Ext β F H F (upd H p o) :=
  ⟨Reg.le.rfl, fun _ h => .inl h, fun _ h => .inl h, fun a u h _ _ => by rw [upd_ne (ne_of_none h hp)]; exact h, fun a h => there_put hp h⟩
/-- .. which may be held on to -/
theorem Ext.putF {β : Bx} {F : Reg} {H : Hp} {p : Addr} {o : HO} (hp : H p = none) : Ext β F H (F.or fun a => a = p) (upd H p o) :=
  ⟨.or _ _, fun a h => h.elim .inl fun e => .inr (by rw [e]; exact hp), fun _ h => .inl h, fun a u h _ _ => by rw [upd_ne (ne_of_none h hp)]; exact h, fun a h => there_put hp h⟩
/-- .. which may be changed: a cell -/
theorem Ext.putC {β : Bx} {F : Reg} {H : Hp} {p : Addr} {o : HO} (hp : H p = none) : Ext β F H (F.add p) (upd H p o) :=
  ⟨.add _ _, fun _ h => .inl h, fun a h => (List.mem_append.mp h).elim .inl fun e => .inr (by rw [List.mem_singleton.mp e]; exact hp), fun a u h _ _ => by rw [upd_ne (ne_of_none h hp)]; exact h, fun a h => there_put hp h⟩
section
variable {H H' : Hp} {F F' : Reg} {β : Bx} {g g' : Bag}
theorem BagOk.notup (b : BagOk β F H g) {a : Addr} {u : HO} (h : Rd H a u) (hu : ∀ xs, u ≠ .lst xs) : some a ≠ β.ad := fun e => by
  obtain ⟨_, q⟩ := b.at_ a e.symm
  rcases h with h | ⟨o, h⟩
  · rw [q] at h
    cases h
    exact hu _ rfl
  · rw [q] at h
    cases h
theorem BagOk.cellAt (b : BagOk β F H g) {a : Addr} (h : a ∈ F.cs) : ∃ (n : Nat) (c : Cell), F.cs[n]? = some a ∧ g.cs[n]? = some c ∧ CellAt H F β a c := by
  obtain ⟨n, e⟩ := List.mem_iff_getElem?.mp h
  have hl := (List.getElem?_eq_some_iff.mp e).1
  have e2 : g.cs[n]? = some (g.cs[n]'(by rw [← b.len]; exact hl)) := List.getElem?_eq_getElem _
  exact ⟨n, _, e, e2, b.cell n a _ e e2⟩
theorem BagOk.notupC (b : BagOk β F H g) {a : Addr} {xs : List V} (h : H a = some (.tup xs)) : a ∉ F.cs := fun z => by
  obtain ⟨_, _, _, _, q⟩ := b.cellAt z
  obtain ⟨u, e, n⟩ := q.there
  rw [h] at e
  exact n xs (Option.some.inj e).symm
theorem Ext.tupAt (b : BagOk β F H g) (e : Ext β F H F' H') {a : Addr} {xs : List V} (h : H a = some (.tup xs)) : H' a = some (.tup xs) := e.keep a _ h (b.notup (.inl h) fun _ z => nomatch z) (b.notupC h)
theorem BagOk.ne (b : BagOk β F H g) {a : Addr} (f : F a) : some a ≠ β.ad := fun e => (b.at_ a e.symm).1 f
theorem BagOk.nc (b : BagOk β F H g) {a : Addr} (f : F.fz a) : a ∉ F.cs := fun e => b.nf a e f
theorem Ext.fzAt (b : BagOk β F H g) (e : Ext β F H F' H') (a : Addr) (f : F.fz a) : F'.fz a ∧ ∀ u, H a = some u → H' a = some u := ⟨e.mono.fz a f, fun u h => e.keep a u h (b.ne (.inl f)) (b.nc f)⟩
theorem R.ext (b : BagOk β F H g) (e : Ext β F H F' H') {d : D} {v : V} (h : R H F β d v) : R H' F' β d v :=
  R.mono (fun a xs => e.tupAt b) (e.fzAt b) (fun _ _ => e.mono.at) d v h
theorem Rs.ext (b : BagOk β F H g) (e : Ext β F H F' H') {d : List D} {v : List V} (h : Rs H F β d v) : Rs H' F' β d v :=
  Rs.mono (fun a xs => e.tupAt b) (e.fzAt b) (fun _ _ => e.mono.at) d v h
/-- the bag and the cells are as they were -/
theorem BagOk.ext (b : BagOk β F H g) (e : Ext β F H F' H') (h : ∀ x, β.ad = some x → H' x = H x) (l : ∀ a, F' a → H' a ≠ none) (hc : F'.cs = F.cs) (hk : ∀ a u, a ∈ F.cs → H a = some u → H' a = some u) : BagOk β F' H' g where
  live := l
  at_ := fun x q => by
    obtain ⟨n, z⟩ := b.at_ x q
    refine ⟨fun f => ?_, (h x q).trans z⟩
    rcases e.new x f with f | f
    · exact n f
    · rw [z] at f; cases f
  len := by rw [hc]; exact b.len
  nd := by rw [hc]; exact b.nd
  nf := fun a m f => by
    rw [hc] at m
    rcases e.newf a f with f | f
    · exact b.nf a m f
    · exact b.live a (.inr m) f
  cell := fun n a c m q => by
    rw [hc] at m
    exact (b.cell n a c m q).mono (fun a xs => e.tupAt b) (e.fzAt b) (fun _ _ => e.mono.at) fun u => hk a u (List.mem_of_getElem? m)
  fl := b.fl
theorem Reg.mix_in {F F' : Reg} (h : ∀ a, F.fz a → F'.fz a) {a : Addr} (f : (F.mix F') a) : F' a := f.elim (fun f => .inl (h a f)) .inr
/-- less is frozen: the cells hold nothing frozen -/
theorem BagOk.mix {F2 : Reg} (b : BagOk β F2 H g) (h : ∀ a, F.fz a → F2.fz a) : BagOk β (F.mix F2) H g where
  live := fun a f => b.live a (Reg.mix_in h f)
  at_ := fun x q => ⟨fun f => (b.at_ x q).1 (Reg.mix_in h f), (b.at_ x q).2⟩
  len := b.len
  nd := b.nd
  nf := fun a m f => b.nf a m (h a f)
  cell := fun n a c m q => (b.cell n a c m q).flat_ (b.fl c (List.mem_of_getElem? q)) fun _ _ h => h
  fl := b.fl
end

/-- the slots, the heap, the bag -/
structure ER (fr : Fr) (F : Reg) (env : Slots) (σ : St) (H : Hp) (g : Bag) : Prop where
  len : env.length = σ.length
  val : ∀ (i : Nat) (d : D), env[i]? = some (some d) → ∃ v, σ[i]? = some (some v) ∧ R H F fr.β d v
  bag : BagOk fr.β F H g
theorem ER.ext {fr : Fr} {F F' : Reg} {env : Slots} {σ : St} {H H' : Hp} {g g' : Bag} (r : ER fr F env σ H g) (e : Ext fr.β F H F' H') (b : BagOk fr.β F' H' g') : ER fr F' env σ H' g' :=
  ⟨r.len, fun i d h => let ⟨v, a, q⟩ := r.val i d h; ⟨v, a, q.ext r.bag e⟩, b⟩
/-- how an exception lies: its class, its own dict -/
def ExcAt (fr : Fr) (F : Reg) (H : Hp) (c : Nat) (p : D) (cls : Value) (d : Option Addr) : Prop :=
  ∃ C n, fr.xc c = some (C, n) ∧ cls = .ref C ∧ match n with
    | none => d = none
    | some f => ∃ dd v, d = some dd ∧ H dd = some (.xd [(f, v)]) ∧ some dd ≠ fr.β.ad ∧ R H F fr.β p v

/-- what is wanted behind an expression with the outcome o -/
def Got (fr : Fr) (F : Reg) (σ : St) (H : Hp) (Q : VK) : Out D → Prop
  | .bad => False
  | .ok d g' => ∀ v H' F', Ext fr.β F H F' H' → BagOk fr.β F' H' g' → R H' F' fr.β d v → Q v H'
  | .exn c p g' => ∀ H' F' cls dd, Ext fr.β F H F' H' → BagOk fr.β F' H' g' → ExcAt fr F' H' c p cls dd → fr.W cls dd σ H'
def tE (fr : Fr) (ρ : EX) : TE := fun σ H Q => ∃ env F g, ER fr F env σ H g ∧ Got fr F σ H Q (ρ env g)
def EV (X : Cx) (fr : Fr) (e : Expr) (ρ : EX) : Prop := PE X e (tE fr ρ)

/-- an expression runs -/
theorem EV.go {X : Cx} {fr : Fr} {e : Expr} {ρ : EX} (h : EV X fr e ρ) {pins : List (Addr × Obj)} {s : Shared} {σ : St} {H : Hp} {F : Reg} {env : Slots} {g : Bag} {P : Value → Shared → Prop} (I : Inv X pins σ H s) (r : ER fr F env σ H g)
    (hb : ρ env g ≠ .bad) (hx : ∀ c p g', ρ env g = .exn c p g' → ∀ H' F' cls dd, Ext fr.β F H F' H' → BagOk fr.β F' H' g' → ExcAt fr F' H' c p cls dd → fr.W cls dd σ H')
    (hk : ∀ d g', ρ env g = .ok d g' → ∀ u s' v H' F', Inv X pins σ H' s' → RelV v u → Ext fr.β F H F' H' → ER fr F' env σ H' g' → R H' F' fr.β d v → P u s') :
    wpAny (model X.prog X.w) X.A (eval e X.env) P X.xe s := by
  cases ho : ρ env g with
  | bad => exact absurd ho hb
  | ok d g' =>
    refine thn (PE.run h pins s σ H (fun v H' => ∃ F', Ext fr.β F H F' H' ∧ ER fr F' env σ H' g' ∧ R H' F' fr.β d v) I ⟨env, F, g, r, ?_⟩) fun u s' ⟨v, H', I', rv, F', ex, er, q⟩ => hk d g' ho u s' v H' F' I' rv ex er q
    rw [ho]
    exact fun v H' F' ex b q => ⟨F', ex, r.ext ex b, q⟩
  | exn c p g' =>
    refine thn (PE.run h pins s σ H (fun v H' => False) I ⟨env, F, g, r, ?_⟩) fun u s' ⟨v, H', I', rv, q⟩ => q.elim
    rw [ho]
    exact hx c p g' ho
/-- .. by a goal about its outcome -/
theorem EV.goM {X : Cx} {fr : Fr} {e : Expr} {ρ : EX} (h : EV X fr e ρ) {pins : List (Addr × Obj)} {s : Shared} {σ : St} {H : Hp} {F : Reg} {env : Slots} {g : Bag} {P : Value → Shared → Prop} {f : D → M D} {Q : VK} (I : Inv X pins σ H s) (r : ER fr F env σ H g)
    (hg : Got fr F σ H Q (M.bnd (ρ env) f g))
    (hk : ∀ d g' u s' v H' F', Inv X pins σ H' s' → RelV v u → Ext fr.β F H F' H' → ER fr F' env σ H' g' → R H' F' fr.β d v → Got fr F' σ H' Q (f d g') → P u s') :
    wpAny (model X.prog X.w) X.A (eval e X.env) P X.xe s := by
  refine h.go I r (fun z => ?_) (fun c p g' z => ?_) fun d g' z u s' v H' F' I' rv ex er q => hk d g' u s' v H' F' I' rv ex er q ?_
  · unfold M.bnd at hg
    rw [z] at hg
    exact hg
  · unfold M.bnd at hg
    rw [z] at hg
    exact hg
  · unfold M.bnd at hg
    rw [z] at hg
    have hg : Got fr F σ H Q (f d g') := hg
    cases ho : f d g' with
    | bad => rw [ho] at hg; exact hg.elim
    | ok d2 g2 =>
      rw [ho] at hg
      exact fun v2 H2 F2 ex2 b2 q2 => hg v2 H2 F2 (ex.trans ex2) b2 q2
    | exn c p g2 =>
      rw [ho] at hg
      exact fun H2 F2 cls dd ex2 b2 q2 => hg H2 F2 cls dd (ex.trans ex2) b2 q2
end VC

/-! VC2: the rules of expressions. -/
namespace VC
open PySem PySem.Spec L2
open PyProof.Rows hiding St

/-! ### what an operation hands back -/
def Hit (fr : Fr) (F : Reg) (H : Hp) (g : Bag) (d : D) : VK := fun v H' => ∃ F', Ext fr.β F H F' H' ∧ BagOk fr.β F' H' g ∧ R H' F' fr.β d v
section
variable {fr : Fr} {F : Reg} {H : Hp} {g : Bag}
theorem upd_live {H : Hp} {p a : Addr} {o : HO} (h : H a ≠ none) : upd H p o a ≠ none := fun z => by
  by_cases e : a = p
  · rw [e, upd_same] at z; cases z
  · rw [upd_ne e] at z; exact h z
theorem upd_bag {H : Hp} {p x : Addr} {o u : HO} (hp : H p = none) (h : H x = some u) : upd H p o x = H x := upd_ne (ne_of_none h hp)
theorem BagOk.put (b : BagOk fr.β F H g) {p : Addr} {o : HO} (hp : H p = none) : BagOk fr.β F (upd H p o) g :=
  b.ext (Ext.put hp) (fun x q => upd_bag hp (b.at_ x q).2) (fun a f => upd_live (b.live a f)) rfl fun a u _ h => by rw [upd_bag hp h]; exact h
theorem BagOk.putF (b : BagOk fr.β F H g) {p : Addr} {o : HO} (hp : H p = none) : BagOk fr.β (F.or fun a => a = p) (upd H p o) g :=
  b.ext (Ext.putF hp) (fun x q => upd_bag hp (b.at_ x q).2) (fun a f => (Reg.in_or.mp f).elim (fun f => upd_live (b.live a f)) fun e => by rw [e, upd_same]; exact fun z => nomatch z) rfl fun a u _ h => by rw [upd_bag hp h]; exact h
/-- a new cell -/
theorem BagOk.putC (b : BagOk fr.β F H g) {p : Addr} {o : HO} {c : Cell} (hp : H p = none) (hc : CellAt (upd H p o) (F.add p) fr.β p c) (hf : flats c.items = true) : BagOk fr.β (F.add p) (upd H p o) ⟨g.b, g.cs ++ [c]⟩ where
  live := fun a f => (Reg.in_add.mp f).elim (fun f => upd_live (b.live a f)) fun e => by rw [e, upd_same]; exact fun z => nomatch z
  at_ := fun x q => ⟨fun f => (Reg.in_add.mp f).elim (b.at_ x q).1 fun e => (by
    have := (b.at_ x q).2
    rw [e, hp] at this
    cases this), by rw [upd_bag hp (b.at_ x q).2]; exact (b.at_ x q).2⟩
  len := by show (F.cs ++ [p]).length = (g.cs ++ [c]).length; rw [List.length_append, List.length_append, b.len]; rfl
  nd := by
    show (F.cs ++ [p]).Nodup
    rw [List.nodup_append]
    exact ⟨b.nd, by simp, fun x hx y hy e => by rw [List.mem_singleton.mp hy] at e; rw [e] at hx; exact b.live p (.inr hx) hp⟩
  nf := fun a m f => (List.mem_append.mp m).elim (fun m => b.nf a m f) fun m => by rw [List.mem_singleton.mp m] at f; exact b.live p (.inl f) hp
  cell := fun n a d m q => by
    have m : (F.cs ++ [p])[n]? = some a := m
    have q : (g.cs ++ [c])[n]? = some d := q
    by_cases hn : n < F.cs.length
    · rw [List.getElem?_append_left hn] at m
      rw [List.getElem?_append_left (by rw [← b.len]; exact hn)] at q
      exact (b.cell n a d m q).mono (fun a xs => (Ext.putC (β := fr.β) (F := F) (o := o) hp).tupAt b) ((Ext.putC (β := fr.β) (F := F) (o := o) hp).fzAt b) (fun _ _ => (Reg.le.add F p).at) fun u h => by rw [upd_bag hp h]; exact h
    · rw [List.getElem?_append_right (Nat.le_of_not_lt hn)] at m
      rw [List.getElem?_append_right (by rw [← b.len]; exact Nat.le_of_not_lt hn), ← b.len] at q
      cases hk : n - F.cs.length with
      | zero =>
        rw [hk] at m q
        cases m
        cases q
        exact hc
      | succ k => rw [hk] at m; simp at m
  fl := fun d m => (List.mem_append.mp m).elim (b.fl d) fun m => by rw [List.mem_singleton.mp m]; exact hf
theorem hit_here (b : BagOk fr.β F H g) {d : D} {v : V} (h : R H F fr.β d v) : Hit fr F H g d v H := ⟨F, Ext.refl _ _ _, b, h⟩
theorem hit_tup (b : BagOk fr.β F H g) {ds : List D} {vs : List V} (h : Rs H F fr.β ds vs) {p : Addr} (hp : H p = none) : Hit fr F H g (.tup ds) (.ref p) (upd H p (.tup vs)) :=
  ⟨F, Ext.put hp, b.put hp, by unfold R; exact ⟨p, vs, rfl, upd_same, h.ext b (Ext.put hp)⟩⟩
theorem hit_lst (b : BagOk fr.β F H g) {ds : List D} {vs : List V} (h : Rs H F fr.β ds vs) {p : Addr} (hp : H p = none) : Hit fr F H g (.lst ds) (.ref p) (upd H p (.lst vs)) :=
  ⟨_, Ext.putF hp, b.putF hp, by unfold R; exact ⟨p, vs, rfl, .inr rfl, upd_same, h.ext b (Ext.putF hp)⟩⟩
theorem got_hit {σ : St} {Q : VK} {d : D} (h : Got fr F σ H Q (.ok d g)) {v : V} {H' : Hp} (q : Hit fr F H g d v H') : Q v H' :=
  let ⟨F', e, b, r⟩ := q
  h v H' F' e b r
end
theorem ofO_ok {α : Type} {o : Option α} {fr : Fr} {F : Reg} {σ : St} {H : Hp} {Q : VK} {g : Bag} {f : α → D} (h : Got fr F σ H Q ((M.bnd (M.ofO o) fun a => M.ret (f a)) g)) : ∃ a, o = some a ∧ Got fr F σ H Q (.ok (f a) g) := by
  cases o with
  | none => exact (show False from h).elim
  | some a => exact ⟨a, rfl, h⟩
theorem ofO_got {o : Option D} {fr : Fr} {F : Reg} {σ : St} {H : Hp} {Q : VK} {g : Bag} (h : Got fr F σ H Q (M.ofO o g)) : ∃ a, o = some a ∧ Got fr F σ H Q (.ok a g) := by
  cases o with
  | none => exact (show False from h).elim
  | some a => exact ⟨a, rfl, h⟩
theorem ep_imp {X : Cx} {pins : List (Addr × Obj)} {σ : St} {Q Q' : VK} {u : Value} {s : Shared} (h : EP X pins σ Q u s) (k : ∀ v H, Q v H → Q' v H) : EP X pins σ Q' u s :=
  let ⟨v, H, I, r, q⟩ := h
  ⟨v, H, I, r, k v H q⟩

section
variable {X : Cx} {fr : Fr} {pos : Pos}
/-! ### leaves -/
def varE (i : Nat) : EX := fun env => M.ofO (env[i]?.bind id)
theorem ev_of (e : Expr) (ρ : EX) (t : TE) (h : PE X e t) (k : ∀ σ H Q env F g, ER fr F env σ H g → Got fr F σ H Q (ρ env g) → t σ H Q) : EV X fr e ρ := by
  refine ⟨fun pins s σ H Q I ⟨env, F, g, r, hg⟩ => h.run pins s σ H Q I (k σ H Q env F g r hg)⟩
theorem ev_var {e : Expr} (i : Nat) (h : PE X e (tVar i)) : EV X fr e (varE i) := by
  refine ev_of _ _ _ h fun σ H Q env F g r hg => ?_
  unfold varE at hg
  obtain ⟨d, e1, hg⟩ := ofO_got hg
  have e2 : env[i]? = some (some d) := by
    cases q : env[i]? with
    | none => rw [q] at e1; cases e1
    | some o => rw [q] at e1; exact congrArg some e1
  obtain ⟨v, e3, q⟩ := r.val i d e2
  exact ⟨v, e3, got_hit hg (hit_here r.bag q)⟩
def cE (d : D) : EX := fun _ => M.ret d
theorem ev_const {e : Expr} {d : D} {v : V} (h : PE X e (tC v)) (hr : ∀ H F β, R H F β d v) : EV X fr e (cE d) := by
  refine ev_of _ _ _ h fun σ H Q env F g r hg => ?_
  have hg : Got fr F σ H Q (.ok d g) := hg
  exact got_hit hg (hit_here r.bag (hr _ _ _))
theorem ev_int {i j} : EV X fr (.Constant (.int i) j pos) (cE (.int i)) := ev_const pe_int fun _ _ _ => by unfold R; rfl
theorem ev_bl {b j} : EV X fr (.Constant (.bool b) j pos) (cE (.bl b)) := ev_const pe_bl fun _ _ _ => by unfold R; rfl
theorem ev_non {j} : EV X fr (.Constant .none j pos) (cE .non) := ev_const pe_non fun _ _ _ => by unfold R; rfl
theorem ev_str {x j} : EV X fr (.Constant (.str x) j pos) (cE (.str x)) := ev_const pe_str fun _ _ _ => by unfold R; rfl
theorem ev_gint {x : Str} {i : Int} {t : Tok} (hg : Gl X x) (hm : X.mg x = some (.int i t)) (hd : (x == ("__debug__" : Str)) = false := by decide) : EV X fr (.Name x pos) (cE (.int i)) := ev_const (v := .int i) (pe_glob hg hm ⟨_, rfl⟩ hd) fun _ _ _ => by unfold R; rfl

/-! ### operations on values -/
structure Op2 (X : Cx) (fr : Fr) (f : Value → Value → Sem Value) (q : D → D → Option D) : Prop where
  at_ : ∀ H F g x y d1 d2 d, BagOk fr.β F H g → R H F fr.β d1 x → R H F fr.β d2 y → q d1 d2 = some d → ∃ r, OpR X f r ∧ r x y H (Hit fr F H g d)
structure Op1 (X : Cx) (fr : Fr) (f : Value → Sem Value) (q : D → Option D) : Prop where
  at_ : ∀ H F g x d1 d, BagOk fr.β F H g → R H F fr.β d1 x → q d1 = some d → ∃ r, UnR X f r ∧ r x H (Hit fr F H g d)
def bin2 (q : D → D → Option D) (a b : EX) : EX := fun env => M.bnd (a env) fun x => M.bnd (b env) fun y => M.ofO (q x y)
def un1 (q : D → Option D) (a : EX) : EX := fun env => M.bnd (a env) fun x => M.ofO (q x)
variable {a b c : Expr} {ρa ρb ρc : EX}
theorem bin_go {f : Value → Value → Sem Value} {q : D → D → Option D} (ho : Op2 X fr f q) (ha : EV X fr a ρa) (hb : EV X fr b ρb) {pins : List (Addr × Obj)} {s : Shared} {σ : St} {H : Hp} {Q : VK} {env : Slots} {F : Reg} {g : Bag}
    (I : Inv X pins σ H s) (r : ER fr F env σ H g) (hg : Got fr F σ H Q (bin2 q ρa ρb env g)) :
    wpAny (model X.prog X.w) X.A (eval a X.env) (fun v s₁ => wpAny (model X.prog X.w) X.A (eval b X.env) (fun u s₂ => wpAny (model X.prog X.w) X.A (f v u) (EP X pins σ Q) X.xe s₂) X.xe s₁) X.xe s := by
  refine ha.goM I r hg fun d1 g1 u1 s1 v1 H1 F1 I1 rv1 ex1 er1 q1 hg1 => hb.goM I1 er1 hg1 fun d2 g2 u2 s2 v2 H2 F2 I2 rv2 ex2 er2 q2 hg2 => ?_
  obtain ⟨d, ed, hg3⟩ := ofO_got hg2
  obtain ⟨r', hr, hq⟩ := ho.at_ H2 F2 g2 v1 v2 d1 d2 d er2.bag (q1.ext er1.bag ex2) q2 ed
  exact thn (hr pins s2 σ H2 v1 v2 u1 u2 _ I2 rv1 rv2 hq) fun u s' e => ep_imp e fun v H' z => got_hit hg3 z
theorem ev_bin {op : Operator} {q : D → D → Option D} (ho : Op2 X fr (binaryOp op) q) (ha : EV X fr a ρa) (hb : EV X fr b ρb) : EV X fr (.BinOp a op b pos) (bin2 q ρa ρb) :=
  ⟨fun pins s σ H Q I ⟨env, F, g, r, hg⟩ => wpAny_BinOp (bin_go ho ha hb I r hg)⟩
theorem ev_un {op : UnaryOp} {q : D → Option D} (ho : Op1 X fr (unaryOp op) q) (ha : EV X fr a ρa) : EV X fr (.UnaryOp op a pos) (un1 q ρa) := by
  refine ⟨fun pins s σ H Q I ⟨env, F, g, r, hg⟩ => UnaryOp_ (ha.goM I r hg fun d1 g1 u1 s1 v1 H1 F1 I1 rv1 ex1 er1 q1 hg1 => ?_)⟩
  obtain ⟨d, ed, hg3⟩ := ofO_got hg1
  obtain ⟨r', hr, hq⟩ := ho.at_ H1 F1 g1 v1 d1 d er1.bag q1 ed
  exact thn (hr pins s1 σ H1 v1 u1 _ I1 rv1 hq) fun u s' e => ep_imp e fun v H' z => got_hit hg3 z
theorem ev_cmp {op : CmpOp} {q : D → D → Option D} (ho : Op2 X fr (compareOp op) q) (ha : EV X fr a ρa) (hb : EV X fr b ρb) (hm : behindInMarks op b = false) : EV X fr (.Compare a [op] [b] pos) (bin2 q ρa ρb) :=
  ⟨fun pins s σ H Q I ⟨env, F, g, r, hg⟩ => wpAny_Compare1 (bin_go ho ha hb I r hg) hm⟩

/-! ### tests -/
abbrev TX := Slots → M Bool
def GotB (fr : Fr) (F : Reg) (σ : St) (H : Hp) (Q : Bool → Hp → Prop) : Out Bool → Prop
  | .bad => False
  | .ok d g' => ∀ H' F', Ext fr.β F H F' H' → BagOk fr.β F' H' g' → Q d H'
  | .exn c p g' => ∀ H' F' cls dd, Ext fr.β F H F' H' → BagOk fr.β F' H' g' → ExcAt fr F' H' c p cls dd → fr.W cls dd σ H'
def tT (fr : Fr) (τ : TX) : TT := fun σ H Q => ∃ env F g, ER fr F env σ H g ∧ GotB fr F σ H Q (τ env g)
def TV (X : Cx) (fr : Fr) (e : Expr) (τ : TX) : Prop := PT X e (tT fr τ)
def TW (X : Cx) (fr : Fr) (e : Expr) (τ : TX) : Prop := PW X e (tT fr τ)
/-- a test runs, to any end -/
theorem TV.goM {e : Expr} {τ : TX} (h : TV X fr e τ) {pins : List (Addr × Obj)} {s : Shared} {σ : St} {H : Hp} {F : Reg} {env : Slots} {g : Bag} {P : Bool → Shared → Prop} (I : Inv X pins σ H s) (r : ER fr F env σ H g)
    (hb : τ env g ≠ .bad) (hx : ∀ c p g', τ env g = .exn c p g' → ∀ H' F' cls dd, Ext fr.β F H F' H' → BagOk fr.β F' H' g' → ExcAt fr F' H' c p cls dd → fr.W cls dd σ H')
    (hk : ∀ d g' s' H' F', τ env g = .ok d g' → Inv X pins σ H' s' → Ext fr.β F H F' H' → ER fr F' env σ H' g' → P d s') :
    wpAny (model X.prog X.w) X.A (isTrue e X.env (eval e X.env)) P X.xe s := by
  cases ho : τ env g with
  | bad => exact absurd ho hb
  | ok d g' =>
    refine thn (PT.run h pins s σ H (fun b H' => b = d ∧ ∃ F', Ext fr.β F H F' H' ∧ ER fr F' env σ H' g') I ⟨env, F, g, r, ?_⟩) fun b s' ⟨H', I', eb, F', ex, er⟩ => by
      subst eb
      exact hk _ g' s' H' F' ho I' ex er
    rw [ho]
    exact fun H' F' ex b => ⟨rfl, F', ex, r.ext ex b⟩
  | exn c p g' =>
    refine thn (PT.run h pins s σ H (fun b H' => False) I ⟨env, F, g, r, ?_⟩) fun b s' ⟨H', I', q⟩ => q.elim
    rw [ho]
    exact hx c p g' ho
/-- what the test's outcome asks, from what the whole asks -/
theorem gotB_bad {F : Reg} {σ : St} {H : Hp} {Q : Bool → Hp → Prop} {m : M Bool} {f : Bool → M Bool} {g : Bag} (h : GotB fr F σ H Q (M.bnd m f g)) : m g ≠ .bad := fun z => by
  unfold M.bnd at h
  rw [z] at h
  exact h
theorem gotB_exn {F : Reg} {σ : St} {H : Hp} {Q : Bool → Hp → Prop} {m : M Bool} {f : Bool → M Bool} {g : Bag} (h : GotB fr F σ H Q (M.bnd m f g)) : ∀ c p g', m g = .exn c p g' → ∀ H' F' cls dd, Ext fr.β F H F' H' → BagOk fr.β F' H' g' → ExcAt fr F' H' c p cls dd → fr.W cls dd σ H' := fun c p g' z => by
  unfold M.bnd at h
  rw [z] at h
  exact h
theorem gotB_ok {F F' : Reg} {σ : St} {H H' : Hp} {Q : Bool → Hp → Prop} {m : M Bool} {f : Bool → M Bool} {g g' : Bag} {d : Bool} (h : GotB fr F σ H Q (M.bnd m f g)) (z : m g = .ok d g') (ex : Ext fr.β F H F' H') : GotB fr F' σ H' Q (f d g') := by
  unfold M.bnd at h
  rw [z] at h
  have h : GotB fr F σ H Q (f d g') := h
  cases ho : f d g' with
  | bad => rw [ho] at h; exact h.elim
  | ok d2 g2 => rw [ho] at h; exact fun H2 F2 e2 b2 => h H2 F2 (ex.trans e2) b2
  | exn c p g2 => rw [ho] at h; exact fun H2 F2 cls dd e2 b2 => h H2 F2 cls dd (ex.trans e2) b2
def notT (τ : TX) : TX := fun env => M.bnd (τ env) fun b => M.ret (!b)
def andT (τ υ : TX) : TX := fun env => M.bnd (τ env) fun b => if b then υ env else M.ret false
def orT (τ υ : TX) : TX := fun env => M.bnd (τ env) fun b => if b then M.ret true else υ env
theorem tv_of (e : Expr) (τ : TX) (t : TT) (h : PT X e t) (k : ∀ σ H Q env F g, ER fr F env σ H g → GotB fr F σ H Q (τ env g) → t σ H Q) : TV X fr e τ :=
  ⟨fun pins s σ H Q I ⟨env, F, g, r, hg⟩ => h.run pins s σ H Q I (k σ H Q env F g r hg)⟩
/-- an outcome wanted, for the parts of a test: by the part's own reading -/
theorem tT_seq {τ : TX} {f : Bool → M Bool} {σ : St} {H : Hp} {Q Q' : Bool → Hp → Prop} {env : Slots} {F : Reg} {g : Bag} (r : ER fr F env σ H g) (hg : GotB fr F σ H Q (M.bnd (τ env) f g))
    (k : ∀ d g' H' F', τ env g = .ok d g' → Ext fr.β F H F' H' → ER fr F' env σ H' g' → GotB fr F' σ H' Q (f d g') → Q' d H') : tT fr τ σ H Q' := by
  refine ⟨env, F, g, r, ?_⟩
  cases ho : τ env g with
  | bad => exact gotB_bad hg ho
  | ok d g' => exact fun H' F' ex b => k d g' H' F' ho ex (r.ext ex b) (gotB_ok hg ho ex)
  | exn c p g' => exact gotB_exn hg c p g' ho
theorem tv_not {τ : TX} (h : TV X fr a τ) : TV X fr (.UnaryOp .Not a pos) (notT τ) :=
  tv_of _ _ _ (pt_not h) fun σ H Q env F g r hg => tT_seq r hg fun d g' H' F' ho ex er q => q H' F' (Ext.refl _ _ _) er.bag
theorem tw_and1 {τ : TX} (h : TV X fr a τ) : TW X fr (.BoolOp .And [a] pos) τ := pw_and1 h
theorem tw_or1 {τ : TX} (h : TV X fr a τ) : TW X fr (.BoolOp .Or [a] pos) τ := pw_or1 h
variable {rest : List Expr}
theorem tw_and {τ υ : TX} (h : TV X fr a τ) (h2 : TW X fr (.BoolOp .And (b :: rest) pos) υ) : TW X fr (.BoolOp .And (a :: b :: rest) pos) (andT τ υ) := by
  refine ⟨fun wh pins s σ H Q I ⟨env, F, g, r, hg⟩ => (pw_and h h2).run wh pins s σ H Q I ?_⟩
  refine tT_seq r hg fun d g' H' F' ho ex er q => ?_
  cases d with
  | true => exact iteT ⟨env, F', g', er, q⟩
  | false => exact iteF (q H' F' (Ext.refl _ _ _) er.bag)
theorem tw_or {τ υ : TX} (h : TV X fr a τ) (h2 : TW X fr (.BoolOp .Or (b :: rest) pos) υ) : TW X fr (.BoolOp .Or (a :: b :: rest) pos) (orT τ υ) := by
  refine ⟨fun wh pins s σ H Q I ⟨env, F, g, r, hg⟩ => (pw_or h h2).run wh pins s σ H Q I ?_⟩
  refine tT_seq r hg fun d g' H' F' ho ex er q => ?_
  cases d with
  | true => exact iteT (q H' F' (Ext.refl _ _ _) er.bag)
  | false => exact iteF ⟨env, F', g', er, q⟩
theorem TW.tv {e : Expr} {τ : TX} (h : TW X fr e τ) : TV X fr e τ := PW.pt h
/-- a value as a test -/
def asB : D → Option Bool
  | .bl b => some b
  | _ => none
def valT (ρ : EX) : TX := fun env => M.bnd (ρ env) fun d => M.ofO (asB d)
theorem ofOB_got {o : Option Bool} {F : Reg} {σ : St} {H : Hp} {Q : Bool → Hp → Prop} {g : Bag} (h : GotB fr F σ H Q (M.ofO o g)) : ∃ a, o = some a ∧ GotB fr F σ H Q (.ok a g) := by
  cases o with
  | none => exact (show False from h).elim
  | some a => exact ⟨a, rfl, h⟩
theorem got_valT {ρ : EX} {F : Reg} {σ : St} {H : Hp} {Q : Bool → Hp → Prop} {env : Slots} {g : Bag} {f : D → M Bool} (r : ER fr F env σ H g) (hg : GotB fr F σ H Q (M.bnd (ρ env) f g))
    {Q' : VK} (k : ∀ d g' H' F' v, ρ env g = .ok d g' → Ext fr.β F H F' H' → ER fr F' env σ H' g' → R H' F' fr.β d v → GotB fr F' σ H' Q (f d g') → Q' v H') : tE fr ρ σ H Q' := by
  refine ⟨env, F, g, r, ?_⟩
  unfold M.bnd at hg
  cases ho : ρ env g with
  | bad => rw [ho] at hg; exact hg
  | exn c p g' => rw [ho] at hg; exact hg
  | ok d g' =>
    rw [ho] at hg
    have hg : GotB fr F σ H Q (f d g') := hg
    intro v H' F' ex b q
    refine k d g' H' F' v ho ex (r.ext ex b) q ?_
    cases h2 : f d g' with
    | bad => rw [h2] at hg; exact hg.elim
    | ok d2 g2 => rw [h2] at hg; exact fun H2 F2 e2 b2 => hg H2 F2 (ex.trans e2) b2
    | exn c p g2 => rw [h2] at hg; exact fun H2 F2 cls dd e2 b2 => hg H2 F2 cls dd (ex.trans e2) b2
theorem tv_val {e : Expr} {ρ : EX} (h : EV X fr e ρ) (he : ∀ whole, isTrue e X.env whole = (do let v ← whole; standAt e.pos; holding [v] (truthy v)) := by intro _; rfl) : TV X fr e (valT ρ) := by
  refine tv_of _ _ _ (pt_val h he) fun σ H Q env F g r hg => ?_
  refine got_valT r hg fun d g' H' F' v ho ex er q hq => ?_
  obtain ⟨b, eb, hq⟩ := ofOB_got hq
  cases d with
  | bl b' =>
    cases eb
    unfold R at q
    exact ⟨_, q, hq H' F' (Ext.refl _ _ _) er.bag⟩
  | _ => cases eb
theorem tv_cmp {op : CmpOp} {q : D → D → Option D} (ho : Op2 X fr (compareOp op) q) (ha : EV X fr a ρa) (hb : EV X fr b ρb) (hm : behindInMarks op b = false) : TV X fr (.Compare a [op] [b] pos) (valT (bin2 q ρa ρb)) := by
  refine ⟨fun pins s σ H Q I ⟨env, F, g, r, hg⟩ => ?_⟩
  -- the value, then its truth
  have key : ∃ Q' : VK, Got fr F σ H Q' (bin2 q ρa ρb env g) ∧ ∀ v H', Q' v H' → ∃ k, v = .bl k ∧ Q k H' := by
    unfold valT M.bnd at hg
    cases ho : bin2 q ρa ρb env g with
    | bad => rw [ho] at hg; exact (show False from hg).elim
    | exn c p g' => rw [ho] at hg; exact ⟨fun _ _ => False, hg, fun _ _ z => z.elim⟩
    | ok d g' =>
      rw [ho] at hg
      have hg : GotB fr F σ H Q (M.ofO (asB d) g') := hg
      obtain ⟨k, ek, hg⟩ := ofOB_got hg
      cases d with
      | bl b' =>
        have e : k = b' := (Option.some.inj ek).symm
        subst e
        exact ⟨fun v H' => v = .bl k ∧ Q k H', fun v H' F' ex bk q => ⟨by unfold R at q; exact q, hg H' F' ex bk⟩, fun v H' z => ⟨k, z⟩⟩
      | _ => cases ek
  obtain ⟨Q', g1, g2⟩ := key
  refine wpAny_isTrue_Compare1 (thn (bin_go ho ha hb I r g1) fun v s1 h1 => thn h1 fun u s2 h2 => thn h2 fun c s3 ⟨x, H1, I1, r1, q1⟩ => ?_) hm
  obtain ⟨k, e, q2⟩ := g2 x H1 q1
  subst e
  cases r1
  exact wpAny_truthy_bool ⟨H1, I1, q2⟩
/-- a if t else b -/
def ifE (τ : TX) (a b : EX) : EX := fun env => M.bnd (τ env) fun c => if c then a env else b env
theorem got_ifE {τ : TX} {F : Reg} {σ : St} {H : Hp} {Q : VK} {env : Slots} {g : Bag} {f : Bool → M D} (r : ER fr F env σ H g) (hg : Got fr F σ H Q (M.bnd (τ env) f g))
    {Q' : Bool → Hp → Prop} (k : ∀ d g' H' F', τ env g = .ok d g' → Ext fr.β F H F' H' → ER fr F' env σ H' g' → Got fr F' σ H' Q (f d g') → Q' d H') : tT fr τ σ H Q' := by
  refine ⟨env, F, g, r, ?_⟩
  unfold M.bnd at hg
  cases ho : τ env g with
  | bad => rw [ho] at hg; exact hg
  | exn c p g' => rw [ho] at hg; exact hg
  | ok d g' =>
    rw [ho] at hg
    have hg : Got fr F σ H Q (f d g') := hg
    intro H' F' ex b
    refine k d g' H' F' ho ex (r.ext ex b) ?_
    cases h2 : f d g' with
    | bad => rw [h2] at hg; exact hg.elim
    | ok d2 g2 => rw [h2] at hg; exact fun v H2 F2 e2 b2 => hg v H2 F2 (ex.trans e2) b2
    | exn c p g2 => rw [h2] at hg; exact fun H2 F2 cls dd e2 b2 => hg H2 F2 cls dd (ex.trans e2) b2
theorem ev_if {τ : TX} (hc : TV X fr c τ) (ha : EV X fr a ρa) (hb : EV X fr b ρb) : EV X fr (.IfExp c a b pos) (ifE τ ρa ρb) := by
  refine ev_of _ _ _ (pe_ifExp hc ha hb) fun σ H Q env F g r hg => ?_
  refine got_ifE r hg fun d g' H' F' ho ex er q => ?_
  cases d with
  | true => exact iteT ⟨env, F', g', er, q⟩
  | false => exact iteF ⟨env, F', g', er, q⟩
/-- and, or, not as values, of truths -/
def andE (a b : EX) : EX := fun env => M.bnd (a env) fun x => match x with
  | .bl true => b env
  | .bl false => M.ret (.bl false)
  | _ => M.bad
def orE (a b : EX) : EX := fun env => M.bnd (a env) fun x => match x with
  | .bl false => b env
  | .bl true => M.ret (.bl true)
  | _ => M.bad
def notE (a : EX) : EX := fun env => M.bnd (a env) fun x => match x with
  | .bl k => M.ret (.bl (!k))
  | _ => M.bad
theorem got_seq {ρ : EX} {F : Reg} {σ : St} {H : Hp} {Q : VK} {env : Slots} {g : Bag} {f : D → M D} (r : ER fr F env σ H g) (hg : Got fr F σ H Q (M.bnd (ρ env) f g))
    {Q' : VK} (k : ∀ d g' H' F' v, ρ env g = .ok d g' → Ext fr.β F H F' H' → ER fr F' env σ H' g' → R H' F' fr.β d v → Got fr F' σ H' Q (f d g') → Q' v H') : tE fr ρ σ H Q' := by
  refine ⟨env, F, g, r, ?_⟩
  unfold M.bnd at hg
  cases ho : ρ env g with
  | bad => rw [ho] at hg; exact hg
  | exn c p g' => rw [ho] at hg; exact hg
  | ok d g' =>
    rw [ho] at hg
    have hg : Got fr F σ H Q (f d g') := hg
    intro v H' F' ex b q
    refine k d g' H' F' v ho ex (r.ext ex b) q ?_
    cases h2 : f d g' with
    | bad => rw [h2] at hg; exact hg.elim
    | ok d2 g2 => rw [h2] at hg; exact fun v H2 F2 e2 b2 => hg v H2 F2 (ex.trans e2) b2
    | exn c p g2 => rw [h2] at hg; exact fun H2 F2 cls dd e2 b2 => hg H2 F2 cls dd (ex.trans e2) b2
theorem ev_one {op} (h : EV X fr a ρa) : EV X fr (.BoolOp op [a] pos) ρa := pe_one h
theorem ev_and (ha : EV X fr a ρa) (hb : EV X fr (.BoolOp .And (b :: rest) pos) ρb) : EV X fr (.BoolOp .And (a :: b :: rest) pos) (andE ρa ρb) := by
  refine ev_of _ _ _ (pe_and ha hb) fun σ H Q env F g r hg => ?_
  refine got_seq r hg fun d g' H' F' v ho ex er q hq => ?_
  cases d with
  | bl k =>
    unfold R at q
    subst q
    refine ⟨k, rfl, ?_⟩
    cases k with
    | true => exact iteT ⟨env, F', g', er, hq⟩
    | false => exact iteF (got_hit hq (hit_here er.bag (by unfold R; rfl)))
  | _ => exact (show False from hq).elim
theorem ev_or (ha : EV X fr a ρa) (hb : EV X fr (.BoolOp .Or (b :: rest) pos) ρb) : EV X fr (.BoolOp .Or (a :: b :: rest) pos) (orE ρa ρb) := by
  refine ev_of _ _ _ (pe_or ha hb) fun σ H Q env F g r hg => ?_
  refine got_seq r hg fun d g' H' F' v ho ex er q hq => ?_
  cases d with
  | bl k =>
    unfold R at q
    subst q
    refine ⟨k, rfl, ?_⟩
    cases k with
    | true => exact iteT (got_hit hq (hit_here er.bag (by unfold R; rfl)))
    | false => exact iteF ⟨env, F', g', er, hq⟩
  | _ => exact (show False from hq).elim
theorem ev_not (ha : EV X fr a ρa) : EV X fr (.UnaryOp .Not a pos) (notE ρa) := by
  refine ev_of _ _ _ (pe_not ha) fun σ H Q env F g r hg => ?_
  refine got_seq r hg fun d g' H' F' v ho ex er q hq => ?_
  cases d with
  | bl k =>
    unfold R at q
    subst q
    exact ⟨k, rfl, got_hit hq (hit_here er.bag (by unfold R; rfl))⟩
  | _ => exact (show False from hq).elim
end
end VC

/-! VC3: arguments, displays, calls, subscripts, operations on values. -/
namespace VC
open PySem PySem.Spec L2
open PyProof.Rows hiding St

theorem M.assoc {α β γ : Type} (m : M α) (f : α → M β) (h : β → M γ) : M.bnd (M.bnd m f) h = M.bnd m (fun a => M.bnd (f a) h) := by
  funext g
  unfold M.bnd
  cases m g <;> rfl
/-! ### argument lists -/
abbrev AX := Slots → M (List D)
def GotL (fr : Fr) (F : Reg) (σ : St) (H : Hp) (Q : List V → Hp → Prop) : Out (List D) → Prop
  | .bad => False
  | .ok d g' => ∀ v H' F', Ext fr.β F H F' H' → BagOk fr.β F' H' g' → Rs H' F' fr.β d v → Q v H'
  | .exn c p g' => ∀ H' F' cls dd, Ext fr.β F H F' H' → BagOk fr.β F' H' g' → ExcAt fr F' H' c p cls dd → fr.W cls dd σ H'
def tA (fr : Fr) (ρ : AX) : TA := fun σ H Q => ∃ env F g, ER fr F env σ H g ∧ GotL fr F σ H Q (ρ env g)
def AV (X : Cx) (fr : Fr) (es : List Expr) (ρ : AX) : Prop := PA X es (tA fr ρ)
def nilA : AX := fun _ => M.ret []
def consA (a : EX) (b : AX) : AX := fun env => M.bnd (a env) fun x => M.bnd (b env) fun xs => M.ret (x :: xs)
section
variable {X : Cx} {fr : Fr} {pos : Pos} {e : Expr} {es : List Expr} {ρ : EX} {ρs : AX}
theorem got_seqL {F : Reg} {σ : St} {H : Hp} {Q : List V → Hp → Prop} {env : Slots} {g : Bag} {f : D → M (List D)} (r : ER fr F env σ H g) (hg : GotL fr F σ H Q (M.bnd (ρ env) f g))
    {Q' : VK} (k : ∀ d g' H' F' v, ρ env g = .ok d g' → Ext fr.β F H F' H' → ER fr F' env σ H' g' → R H' F' fr.β d v → GotL fr F' σ H' Q (f d g') → Q' v H') : tE fr ρ σ H Q' := by
  refine ⟨env, F, g, r, ?_⟩
  unfold M.bnd at hg
  cases ho : ρ env g with
  | bad => rw [ho] at hg; exact hg
  | exn c p g' => rw [ho] at hg; exact hg
  | ok d g' =>
    rw [ho] at hg
    have hg : GotL fr F σ H Q (f d g') := hg
    intro v H' F' ex b q
    refine k d g' H' F' v ho ex (r.ext ex b) q ?_
    cases h2 : f d g' with
    | bad => rw [h2] at hg; exact hg.elim
    | ok d2 g2 => rw [h2] at hg; exact fun v H2 F2 e2 b2 => hg v H2 F2 (ex.trans e2) b2
    | exn c p g2 => rw [h2] at hg; exact fun H2 F2 cls dd e2 b2 => hg H2 F2 cls dd (ex.trans e2) b2
theorem gotLL {F : Reg} {σ : St} {H : Hp} {Q : List V → Hp → Prop} {env : Slots} {g : Bag} {f : List D → M (List D)} (r : ER fr F env σ H g) (hg : GotL fr F σ H Q (M.bnd (ρs env) f g))
    {Q' : List V → Hp → Prop} (k : ∀ d g' H' F' v, ρs env g = .ok d g' → Ext fr.β F H F' H' → ER fr F' env σ H' g' → Rs H' F' fr.β d v → GotL fr F' σ H' Q (f d g') → Q' v H') : tA fr ρs σ H Q' := by
  refine ⟨env, F, g, r, ?_⟩
  unfold M.bnd at hg
  cases ho : ρs env g with
  | bad => rw [ho] at hg; exact hg
  | exn c p g' => rw [ho] at hg; exact hg
  | ok d g' =>
    rw [ho] at hg
    have hg : GotL fr F σ H Q (f d g') := hg
    intro v H' F' ex b q
    refine k d g' H' F' v ho ex (r.ext ex b) q ?_
    cases h2 : f d g' with
    | bad => rw [h2] at hg; exact hg.elim
    | ok d2 g2 => rw [h2] at hg; exact fun v H2 F2 e2 b2 => hg v H2 F2 (ex.trans e2) b2
    | exn c p g2 => rw [h2] at hg; exact fun H2 F2 cls dd e2 b2 => hg H2 F2 cls dd (ex.trans e2) b2
/-- an argument list, then a value -/
theorem gotLE {F : Reg} {σ : St} {H : Hp} {Q : VK} {env : Slots} {g : Bag} {f : List D → M D} (r : ER fr F env σ H g) (hg : Got fr F σ H Q (M.bnd (ρs env) f g))
    {Q' : List V → Hp → Prop} (k : ∀ d g' H' F' v, ρs env g = .ok d g' → Ext fr.β F H F' H' → ER fr F' env σ H' g' → Rs H' F' fr.β d v → Got fr F' σ H' Q (f d g') → Q' v H') : tA fr ρs σ H Q' := by
  refine ⟨env, F, g, r, ?_⟩
  unfold M.bnd at hg
  cases ho : ρs env g with
  | bad => rw [ho] at hg; exact hg
  | exn c p g' => rw [ho] at hg; exact hg
  | ok d g' =>
    rw [ho] at hg
    have hg : Got fr F σ H Q (f d g') := hg
    intro v H' F' ex b q
    refine k d g' H' F' v ho ex (r.ext ex b) q ?_
    cases h2 : f d g' with
    | bad => rw [h2] at hg; exact hg.elim
    | ok d2 g2 => rw [h2] at hg; exact fun v H2 F2 e2 b2 => hg v H2 F2 (ex.trans e2) b2
    | exn c p g2 => rw [h2] at hg; exact fun H2 F2 cls dd e2 b2 => hg H2 F2 cls dd (ex.trans e2) b2
theorem av_of (t : TA) (h : PA X es t) (k : ∀ σ H Q env F g, ER fr F env σ H g → GotL fr F σ H Q (ρs env g) → t σ H Q) : AV X fr es ρs :=
  ⟨fun pos pins s σ H Q I ⟨env, F, g, r, hg⟩ => h.run pos pins s σ H Q I (k σ H Q env F g r hg)⟩
theorem av_nil : AV X fr [] nilA := av_of _ pa_nil fun σ H Q env F g r hg => hg [] H F (Ext.refl _ _ _) r.bag .nil
theorem av_cons (h : EV X fr e ρ) (h2 : AV X fr es ρs) (hs : starEach (e :: es) X.env = (false, eval e X.env) :: starEach es X.env := by rfl) : AV X fr (e :: es) (consA ρ ρs) := by
  refine av_of _ (pa_cons h h2 hs) fun σ H Q env F g r hg => ?_
  refine got_seqL r hg fun d g1 H1 F1 v ho ex er q hq => ?_
  refine gotLL er hq fun ds g2 H2 F2 vs ho2 ex2 er2 qs hq2 => ?_
  exact hq2 (v :: vs) H2 F2 (Ext.refl _ _ _) er2.bag (.cons (q.ext er.bag ex2) qs)

/-! ### displays -/
def tupE (ρs : AX) : EX := fun env => M.bnd (ρs env) fun ds => M.ofO (if ds.length ≤ 1000 then some (.tup ds) else none)
def lstE (ρs : AX) : EX := fun env => M.bnd (ρs env) fun ds => M.ofO (if ds.length ≤ 1000 then some (.lst ds) else none)
theorem le_line {n : Nat} (h : n ≤ 1000) : n ≤ sizeLine := by rw [sizeLine_eq]; omega
theorem ev_tup {x1} (h : AV X fr es ρs) : EV X fr (.Tuple es x1 pos) (tupE ρs) := by
  refine ev_of _ _ _ (pe_tup h) fun σ H Q env F g r hg => ?_
  refine gotLE r hg fun ds g1 H1 F1 vs ho ex er q hq => ?_
  obtain ⟨d, ed, hq⟩ := ofO_got hq
  split at ed
  · rename_i hl
    cases ed
    exact ⟨le_line (by rw [← q.length]; exact hl), fun p hp => got_hit hq (hit_tup er.bag q hp)⟩
  · cases ed
theorem ev_lst (h : AV X fr es ρs) : EV X fr (.List es pos) (lstE ρs) := by
  refine ev_of _ _ _ (pe_lst h) fun σ H Q env F g r hg => ?_
  refine gotLE r hg fun ds g1 H1 F1 vs ho ex er q hq => ?_
  obtain ⟨d, ed, hq⟩ := ofO_got hq
  split at ed
  · rename_i hl
    cases ed
    exact ⟨le_line (by rw [← q.length]; exact hl), fun p hp => got_hit hq (hit_lst er.bag q hp)⟩
  · cases ed

/-! ### built-ins called -/
structure OpL (X : Cx) (fr : Fr) (f : Value) (q : List D → Option D) : Prop where
  at_ : ∀ H F g xs ds d, BagOk fr.β F H g → Rs H F fr.β ds xs → q ds = some d → ∃ r, CallR X f r ∧ r xs H (Hit fr F H g d)
def callE (q : List D → Option D) (ρs : AX) : EX := fun env => M.bnd (ρs env) fun ds => M.ofO (q ds)
theorem AV.goM {X : Cx} {fr : Fr} {es : List Expr} {ρs : AX} (h : AV X fr es ρs) {cpos : Pos} {pins : List (Addr × Obj)} {s : Shared} {σ : St} {H : Hp} {F : Reg} {env : Slots} {g : Bag} {P : List Value → Shared → Prop} {f : List D → M D} {Q : VK} (I : Inv X pins σ H s) (r : ER fr F env σ H g)
    (hg : Got fr F σ H Q (M.bnd (ρs env) f g))
    (hk : ∀ d g' us s' vs H' F', Inv X pins σ H' s' → Vals vs us → Ext fr.β F H F' H' → ER fr F' env σ H' g' → Rs H' F' fr.β d vs → Got fr F' σ H' Q (f d g') → P us s') :
    wpAny (model X.prog X.w) X.A (spliced (backTo cpos (starEach es X.env))) P X.xe s := by
  have key := gotLE (Q' := fun vs H' => ∃ d g' F', Ext fr.β F H F' H' ∧ ER fr F' env σ H' g' ∧ Rs H' F' fr.β d vs ∧ Got fr F' σ H' Q (f d g')) r hg fun d g' H' F' v ho ex er q hq => ⟨d, g', F', ex, er, q, hq⟩
  exact thn (PA.run h cpos pins s σ H _ I key) fun us s' ⟨vs, H', I', rv, d, g', F', ex, er, q, hq⟩ => hk d g' us s' vs H' F' I' rv ex er q hq
theorem ev_callB {x : Str} {id : String} {p : Pos} {q : List D → Option D} (ho : OpL X fr (.builtin id) q) (hg : Gl X x) (hm : X.mg x = none) (hv : bootBuiltins x = some (.builtin id)) (ha : AV X fr (e :: es) ρs) (hn : x ≠ "__name__" := by decide) (hdb : (x == ("__debug__" : Str)) = false := by decide)
    (he : starEach (e :: es) X.env = (false, eval e X.env) :: starEach es X.env := by rfl) (hpl : (backTo pos (starEach es X.env)).any (·.1) = false := by rfl) : EV X fr (.Call (.Name x p) (e :: es) [] pos) (callE q ρs) := by
  refine ⟨fun pins s σ H Q I ⟨env, F, g, r, hgt⟩ => ?_⟩
  refine wpAny_Call_Name_kw (ld_blt I hg hm hv ?_ hn hdb)
  refine PyProof.Rows.callWith_builtin1 (ha.goM I r hgt fun ds g1 us s1 vs H1 F1 I1 rv ex er qs hq => ?_) he hpl
  obtain ⟨d, ed, hq⟩ := ofO_got hq
  obtain ⟨r', hr, hh⟩ := ho.at_ H1 F1 g1 vs ds d er.bag qs ed
  exact thn (hr pins s1 σ H1 vs us _ I1 rv hh) fun u s' e => ep_imp e fun v H' z => got_hit hq z
theorem ev_callTy {x : Str} {T : String} {p : Pos} {q : List D → Option D} (ho : OpL X fr (.type T) q) (hg : Gl X x) (hm : X.mg x = none) (hv : bootBuiltins x = some (.type T)) (ha : AV X fr (e :: es) ρs) (hn : x ≠ "__name__" := by decide) (hdb : (x == ("__debug__" : Str)) = false := by decide)
    (he : starEach (e :: es) X.env = (false, eval e X.env) :: starEach es X.env := by rfl) (hpl : (backTo pos (starEach es X.env)).any (·.1) = false := by rfl) : EV X fr (.Call (.Name x p) (e :: es) [] pos) (callE q ρs) := by
  refine ⟨fun pins s σ H Q I ⟨env, F, g, r, hgt⟩ => ?_⟩
  refine wpAny_Call_Name_kw (ld_blt I hg hm hv ?_ hn hdb)
  refine PyProof.Rows.callWith_type1 (ha.goM I r hgt fun ds g1 us s1 vs H1 F1 I1 rv ex er qs hq => ?_) he hpl
  obtain ⟨d, ed, hq⟩ := ofO_got hq
  obtain ⟨r', hr, hh⟩ := ho.at_ H1 F1 g1 vs ds d er.bag qs ed
  exact thn (hr pins s1 σ H1 vs us _ I1 rv hh) fun u s' e => ep_imp e fun v H' z => got_hit hq z

/-! ### own defs called -/
abbrev FX := List D → M D
def xcOk (β : Bx) (xc : Nat → Option (Addr × Option Str)) (F : Reg) (H : Hp) (c : Nat) (p : D) (cls : Value) (d : Option Addr) : Prop := ExcAt ⟨β, fun _ _ _ _ => False, xc⟩ F H c p cls d
def spV (β : Bx) (xc : Nat → Option (Addr × Option Str)) (n : Nat) (ρ : FX) : Sp := fun vs H Q E => vs.length = n ∧ ∃ F g ds, BagOk β F H g ∧ Rs H F β ds vs ∧ match ρ ds g with
  | .bad => False
  | .ok d g' => ∀ v H' F', Ext β F H F' H' → BagOk β F' H' g' → R H' F' β d v → Q v H'
  | .exn c p g' => ∀ H' F' cls dd, Ext β F H F' H' → BagOk β F' H' g' → xcOk β xc F' H' c p cls dd → E cls dd H'
/-- no exception is let through -/
def noX {α : Type} (m : M α) : M α := fun g => match m g with
  | .exn _ _ _ => .bad
  | o => o
def fnE (ρ : FX) (ρs : AX) (n : Nat) : EX := fun env => M.bnd (ρs env) fun ds => if ds.length = n then noX (ρ ds) else M.bad
def fnXE (ρ : FX) (ρs : AX) (n : Nat) : EX := fun env => M.bnd (ρs env) fun ds => if ds.length = n then ρ ds else M.bad
theorem spV_of {F : Reg} {σ : St} {H : Hp} {Q : VK} {g : Bag} {ρ : FX} {ds : List D} {vs : List V} {n : Nat} (b : BagOk fr.β F H g) (q : Rs H F fr.β ds vs) (hq : Got fr F σ H Q ((if ds.length = n then noX (ρ ds) else M.bad) g)) : spV fr.β fr.xc n ρ vs H Q E0 := by
  by_cases hl : ds.length = n
  · rw [if_pos hl] at hq
    refine ⟨by rw [← q.length]; exact hl, F, g, ds, b, q, ?_⟩
    unfold noX at hq
    cases ho : ρ ds g with
    | bad => rw [ho] at hq; exact hq
    | ok d g' => rw [ho] at hq; exact hq
    | exn c p g' => rw [ho] at hq; exact (show False from hq).elim
  · rw [if_neg hl] at hq
    exact (show False from hq).elim
theorem spV_ofX {F : Reg} {σ : St} {H : Hp} {Q : VK} {g : Bag} {ρ : FX} {ds : List D} {vs : List V} {n : Nat} (b : BagOk fr.β F H g) (q : Rs H F fr.β ds vs) (hq : Got fr F σ H Q ((if ds.length = n then ρ ds else M.bad) g)) : spV fr.β fr.xc n ρ vs H Q (WE fr.W σ) := by
  by_cases hl : ds.length = n
  · rw [if_pos hl] at hq
    refine ⟨by rw [← q.length]; exact hl, F, g, ds, b, q, ?_⟩
    cases ho : ρ ds g with
    | bad => rw [ho] at hq; exact hq
    | ok d g' => rw [ho] at hq; exact hq
    | exn c p g' => rw [ho] at hq; exact hq
  · rw [if_neg hl] at hq
    exact (show False from hq).elim
variable {x : Str} {p : Pos} {f : Addr} {fd : FuncData} {ps : List Str} {k : Nat} {ρf : FX}
theorem ev_call (G : FnOk X.prog X.w X.K X.mg X.base CX0 k f fd ps (spV fr.β fr.xc ps.length ρf)) (hr : Room k X.A) (hg : Gl X x) (hm : X.mg x = some (.ref f)) (hk : PySem.W.keepIn X.K (.ref f) = true) (hb : Binds X.K fd ps []) (ha : AV X fr (e :: es) ρs)
    (hdb : (x == ("__debug__" : Str)) = false := by decide) (he : starEach (e :: es) X.env = (false, eval e X.env) :: starEach es X.env := by rfl) (hpl : (backTo pos (starEach es X.env)).any (·.1) = false := by rfl) :
    EV X fr (.Call (.Name x p) (e :: es) [] pos) (fnE ρf ρs ps.length) := by
  refine ev_of _ _ _ (pe_call G hr hg hm hk hb .nil pass0 ha hdb he hpl) fun σ H Q env F g r hgt => ?_
  refine gotLE r hgt fun ds g1 H1 F1 vs ho ex er q hq => ?_
  rw [List.append_nil]
  exact spV_of er.bag q hq
theorem ev_callX (G : FnOk X.prog X.w X.K X.mg X.base (L2.CX X.prog X.w) k f fd ps (spV fr.β fr.xc ps.length ρf)) (tk : Takes X fr.W) (hr : Room k X.A) (hg : Gl X x) (hm : X.mg x = some (.ref f)) (hk : PySem.W.keepIn X.K (.ref f) = true) (hb : Binds X.K fd ps []) (ha : AV X fr (e :: es) ρs)
    (hdb : (x == ("__debug__" : Str)) = false := by decide) (he : starEach (e :: es) X.env = (false, eval e X.env) :: starEach es X.env := by rfl) (hpl : (backTo pos (starEach es X.env)).any (·.1) = false := by rfl) :
    EV X fr (.Call (.Name x p) (e :: es) [] pos) (fnXE ρf ρs ps.length) := by
  refine ev_of _ _ _ (pe_callS (E := WE fr.W) G hr hg hm hk hb (fun σ => passAt tk σ) ha hdb he hpl) fun σ H Q env F g r hgt => ?_
  refine gotLE r hgt fun ds g1 H1 F1 vs ho ex er q hq => ?_
  exact spV_ofX er.bag q hq

/-! ### subscripts -/
structure OpI (X : Cx) (fr : Fr) (q : D → D → Option D) : Prop where
  at_ : ∀ H F g x y d1 d2 d, BagOk fr.β F H g → R H F fr.β d1 x → R H F fr.β d2 y → q d1 d2 = some d → ∃ r, IxR X r ∧ r x y H (Hit fr F H g d)
variable {a b : Expr} {ρa ρb : EX}
theorem binI_go {q : D → D → Option D} (ho : OpI X fr q) (ha : EV X fr a ρa) (hb : EV X fr b ρb) (hs : PlainIx b) : EV X fr (.Subscript a b pos) (bin2 q ρa ρb) := by
  refine ⟨fun pins s σ H Q I ⟨env, F, g, r, hg⟩ => Subscript_ ?_⟩
  refine ha.goM I r hg fun d1 g1 u1 s1 v1 H1 F1 I1 rv1 ex1 er1 q1 hg1 => hb.goM I1 er1 hg1 fun d2 g2 u2 s2 v2 H2 F2 I2 rv2 ex2 er2 q2 hg2 => ?_
  obtain ⟨d, ed, hg3⟩ := ofO_got hg2
  obtain ⟨r', hr, hq⟩ := ho.at_ H2 F2 g2 v1 v2 d1 d2 d er2.bag (q1.ext er1.bag ex2) q2 ed
  exact thn (hr a b pins s2 σ H2 v1 v2 u1 u2 _ I2 rv1 rv2 hq (hs _ _)) fun u s' e => ep_imp e fun v H' z => got_hit hg3 z
def asI : D → Option Int
  | .int i => some i
  | _ => none
def ixD : D → D → Option D
  | .lst xs, .int i => atI xs i
  | .tup xs, .int i => atI xs i
  | _, _ => none
theorem Rs.atI {H : Hp} {F : Reg} {β : Bx} {ds : List D} {vs : List V} {i : Int} {d : D} (h : Rs H F β ds vs) (e : atI ds i = some d) : ∃ v, L2.atI vs i = some v ∧ R H F β d v := by
  unfold L2.atI at e ⊢
  rw [← h.length]
  cases q : ixN ds.length i with
  | none => rw [q] at e; cases e
  | some j =>
    rw [q] at e
    exact h.get e
theorem op_ix : OpI X fr ixD := ⟨fun H F g x y d1 d2 d b r1 r2 e => by
  cases d2 with
  | int i =>
    unfold R at r2
    subst r2
    cases d1 with
    | lst xs =>
      unfold R at r1
      obtain ⟨a, vs, rfl, _, h, rs⟩ := r1
      obtain ⟨v, e2, q⟩ := rs.atI e
      exact ⟨_, ix_list, a, vs, i, v, rfl, rfl, SqL.of h, e2, hit_here b q⟩
    | tup xs =>
      unfold R at r1
      obtain ⟨a, vs, rfl, h, rs⟩ := r1
      obtain ⟨v, e2, q⟩ := rs.atI e
      exact ⟨_, ix_tup, a, vs, i, v, rfl, rfl, SqT.of h, e2, hit_here b q⟩
    | _ => cases e
  | _ => cases d1 <;> cases e⟩
theorem ev_ix (ha : EV X fr a ρa) (hb : EV X fr b ρb) (hs : PlainIx b := by intro _ _; rfl) : EV X fr (.Subscript a b pos) (bin2 ixD ρa ρb) := binI_go op_ix ha hb hs
/-- the bag's places: bag[0], bag[1], bag[2] -/
def bagIx (g : Bag) : Int → Option Int
  | 0 => some g.b.1
  | 1 => some g.b.2.1
  | 2 => some g.b.2.2
  | _ => none
def bagE (i : Int) (ρa : EX) : EX := fun env => M.bnd (ρa env) fun d g => match d with
  | .bag => match bagIx g i with
    | some z => .ok (.int z) g
    | none => .bad
  | _ => .bad
theorem ev_bagix {i : Int} {j} {pos2 : Pos} (ha : EV X fr a ρa) : EV X fr (.Subscript a (.Constant (.int i) j pos2) pos) (bagE i ρa) := by
  refine ev_of _ _ _ (pe_ix ix_list ha pe_int (fun _ _ => rfl)) fun σ H Q env F g r hg => ?_
  refine got_seq r hg fun d g' H' F' v ho ex er q hq => ?_
  cases d with
  | bag =>
    unfold R at q
    obtain ⟨b, hb, rfl⟩ := q
    obtain ⟨_, hB⟩ := er.bag.at_ b hb
    have hq : Got fr F' σ H' Q (match bagIx g' i with
      | some z => .ok (.int z) g'
      | none => .bad) := hq
    cases hz : bagIx g' i with
    | none => rw [hz] at hq; exact hq.elim
    | some z =>
      rw [hz] at hq
      refine ⟨b, bagV g', i, .int z, rfl, rfl, SqL.of hB, ?_, got_hit hq (hit_here er.bag (by unfold R; rfl))⟩
      unfold bagIx at hz
      split at hz <;> (cases hz <;> rfl)
  | _ => exact (show False from hq).elim
/-- slices -/
structure OpS (X : Cx) (fr : Fr) (q : D → Option Int → Option Int → Option D) : Prop where
  at_ : ∀ H F g x d1 lo hi d, BagOk fr.β F H g → R H F fr.β d1 x → q d1 lo hi = some d → ∃ r, SlR X r ∧ r x lo hi H (Hit fr F H g d)
def cutD (xs : List D) (lo hi : Option Int) : List D := (xs.drop (HT.sIx xs.length 0 lo)).take (HT.sIx xs.length xs.length hi - HT.sIx xs.length 0 lo)
def slD : D → Option Int → Option Int → Option D
  | .lst xs, lo, hi => some (.lst (cutD xs lo hi))
  | .tup xs, lo, hi => some (.tup (cutD xs lo hi))
  | _, _, _ => none
theorem Rs.cut {H : Hp} {F : Reg} {β : Bx} {ds : List D} {vs : List V} {lo hi : Option Int} (h : Rs H F β ds vs) : Rs H F β (cutD ds lo hi) (cutV vs lo hi) := by
  unfold cutD cutV
  rw [← h.length]
  exact (h.drop _).take _
theorem cutD_all {ds : List D} {lo hi : Option Int} (h : HT.sIx ds.length 0 lo = 0 ∧ HT.sIx ds.length ds.length hi = ds.length) : cutD ds lo hi = ds := by
  unfold cutD
  rw [h.1, h.2]
  simp
theorem op_sl : OpS X fr slD := ⟨fun H F g x d1 lo hi d b r1 e => by
  cases d1 with
  | lst xs =>
    cases e
    unfold R at r1
    obtain ⟨a, vs, rfl, _, h, rs⟩ := r1
    exact ⟨_, sl_list, a, vs, rfl, SqL.of h, fun p hp => hit_lst b rs.cut hp⟩
  | tup xs =>
    cases e
    have r1' := r1
    unfold R at r1
    obtain ⟨a, vs, rfl, h, rs⟩ := r1
    refine ⟨_, sl_tupA, a, vs, rfl, SqT.of h, fun z => ?_, fun z p hp => hit_tup b rs.cut hp⟩
    rw [← rs.length] at z
    rw [cutD_all z]
    exact hit_here b r1'
  | _ => cases e⟩
abbrev PX := Slots → M (Option Int)
def noP : PX := fun _ => M.ret none
def someP (ρ : EX) : PX := fun env => M.bnd (ρ env) fun d => match d with
  | .int i => M.ret (some i)
  | _ => M.bad
def slE (ρ : EX) (l h : PX) : EX := fun env => M.bnd (ρ env) fun d => M.bnd (l env) fun i => M.bnd (h env) fun j => M.ofO (slD d i j)
/-- a slice's part -/
def PV (X : Cx) (fr : Fr) (e : Option Expr) (π : PX) : Prop := ∀ (pins : List (Addr × Obj)) (s : Shared) (σ : St) (H : Hp) (F : Reg) (env : Slots) (g : Bag) (P : Value → Shared → Prop), Inv X pins σ H s → ER fr F env σ H g → π env g ≠ .bad →
  (∀ c p g', π env g = .exn c p g' → ∀ H' F' cls dd, Ext fr.β F H F' H' → BagOk fr.β F' H' g' → ExcAt fr F' H' c p cls dd → fr.W cls dd σ H') →
  (∀ i g', π env g = .ok i g' → ∀ u s' H' F', Inv X pins σ H' s' → IsPart u i → Ext fr.β F H F' H' → ER fr F' env σ H' g' → P u s') → wpAny (model X.prog X.w) X.A (evalPart e X.env) P X.xe s
theorem pv_none : PV X fr none noP := by
  intro pins s σ H F env g P I r hb hx hk
  rw [evalPart_none]
  exact wpAny_pure (hk none g rfl _ _ H F I .none (Ext.refl _ _ _) r)
theorem pv_some (h : EV X fr e ρ) : PV X fr (some e) (someP ρ) := by
  intro pins s σ H F env g P I r hb hx hk
  rw [evalPart_some]
  unfold someP M.bnd at hb hx hk
  refine h.go I r (fun z => hb (by rw [z])) (fun c p g' z => hx c p g' (by rw [z])) fun d g' z u s' v H' F' I' rv ex er q => ?_
  rw [z] at hb hk
  cases d with
  | int i =>
    unfold R at q
    subst q
    obtain ⟨t, rfl⟩ := rv
    exact hk (some i) g' rfl _ s' H' F' I' (.int i t) ex er
  | _ => exact absurd rfl hb
theorem PV.goM {lo : Option Expr} {π : PX} (h : PV X fr lo π) {pins : List (Addr × Obj)} {s : Shared} {σ : St} {H : Hp} {F : Reg} {env : Slots} {g : Bag} {P : Value → Shared → Prop} {f : Option Int → M D} {Q : VK} (I : Inv X pins σ H s) (r : ER fr F env σ H g)
    (hg : Got fr F σ H Q (M.bnd (π env) f g))
    (hk : ∀ i g' u s' H' F', Inv X pins σ H' s' → IsPart u i → Ext fr.β F H F' H' → ER fr F' env σ H' g' → Got fr F' σ H' Q (f i g') → P u s') : wpAny (model X.prog X.w) X.A (evalPart lo X.env) P X.xe s := by
  refine h pins s σ H F env g P I r (fun z => ?_) (fun c p g' z => ?_) fun i g' z u s' H' F' I' pu ex er => hk i g' u s' H' F' I' pu ex er ?_
  · unfold M.bnd at hg
    rw [z] at hg
    exact hg
  · unfold M.bnd at hg
    rw [z] at hg
    exact hg
  · unfold M.bnd at hg
    rw [z] at hg
    have hg : Got fr F σ H Q (f i g') := hg
    cases ho : f i g' with
    | bad => rw [ho] at hg; exact hg.elim
    | ok d2 g2 =>
      rw [ho] at hg
      exact fun v2 H2 F2 ex2 b2 q2 => hg v2 H2 F2 (ex.trans ex2) b2 q2
    | exn c p g2 =>
      rw [ho] at hg
      exact fun H2 F2 cls dd ex2 b2 q2 => hg H2 F2 cls dd (ex.trans ex2) b2 q2
theorem ev_slice {lo hi : Option Expr} {l h : PX} {p2 : Pos} (he : EV X fr e ρ) (hl : PV X fr lo l) (hu : PV X fr hi h) : EV X fr (.Subscript e (.Slice lo hi none p2) pos) (slE ρ l h) := by
  refine ⟨fun pins s σ H Q I ⟨env, F, g, r, hg⟩ => ?_⟩
  refine Subscript_ (he.goM I r hg fun d g1 u s1 v H1 F1 I1 rv ex1 er1 q hg1 => ?_)
  refine wpAny_Slice (hl.goM I1 er1 hg1 fun i g2 vl s2 H2 F2 I2 pl ex2 er2 hg2 => hu.goM I2 er2 hg2 fun j g3 vu s3 H3 F3 I3 pu ex3 er3 hg3 => ?_)
  rw [evalPart_none]
  refine wpAny_pure ?_
  obtain ⟨d2, ed, hg4⟩ := ofO_got hg3
  obtain ⟨r', hr, hq⟩ := op_sl.at_ H3 F3 g3 v d i j d2 er3.bag ((q.ext er1.bag ex2).ext er2.bag ex3) ed
  have I4 : Inv X pins σ H3 { s3 with heap := s3.heap.push { cls := .type "slice", data := .fields #[vl, vu, .none] } } := I3.kept (t' := s3.toks) fun b ob q => Heap.get?_push_of_some _ q
  obtain ⟨T, id, hT, ht, hgi⟩ := hr pins { s3 with heap := s3.heap.push { cls := .type "slice", data := .fields #[vl, vu, .none] } } σ H3 v u vl vu i j s3.heap.objs.size _ I4 rv (Heap.IsSliceOf.new ..) pl pu hq
  show wpAny (model X.prog X.w) X.A (subscriptTail e (.Slice lo hi none p2) u (.ref s3.heap.objs.size)) (EP X pins σ Q) X.xe { s3 with heap := s3.heap.push { cls := .type "slice", data := .fields #[vl, vu, .none] } }
  exact thn (tail_any (ops := [.ref s3.heap.objs.size, u]) ht hT hgi (by with_unfolding_all rfl)) fun u s' e => ep_imp e fun v H' z => got_hit hg4 z
end
end VC

/-! VC4: operations on values. -/
namespace VC
open PySem PySem.Spec L2
open PyProof.Rows hiding St

section
variable {X : Cx} {fr : Fr} {F : Reg} {H : Hp} {β : Bx}
theorem r_int {i : Int} {v : V} (h : R H F β (.int i) v) : v = .int i := by unfold R at h; exact h
theorem r_bl {i : Bool} {v : V} (h : R H F β (.bl i) v) : v = .bl i := by unfold R at h; exact h
theorem r_non {v : V} (h : R H F β .non v) : v = .non := by unfold R at h; exact h
theorem r_str {i : Str} {v : V} (h : R H F β (.str i) v) : v = .str i := by unfold R at h; exact h
theorem r_tup {xs : List D} {v : V} (h : R H F β (.tup xs) v) : ∃ a vs, v = .ref a ∧ H a = some (.tup vs) ∧ Rs H F β xs vs := by unfold R at h; exact h
theorem r_lst {xs : List D} {v : V} (h : R H F β (.lst xs) v) : ∃ a vs, v = .ref a ∧ F.fz a ∧ H a = some (.lst vs) ∧ Rs H F β xs vs := by unfold R at h; exact h
theorem r_dK {ks : List Key} {xs : List D} {v : V} (h : R H F β (.dK ks xs) v) : ∃ a kv, v = .ref a ∧ F.fz a ∧ Rd H a (.dK kv) ∧ ks = kv.map (·.1) ∧ Rs H F β xs (kv.map (·.2)) := by unfold R at h; exact h
theorem r_dT {ks : List (List Key)} {xs : List D} {v : V} (h : R H F β (.dT ks xs) v) : ∃ a kv, v = .ref a ∧ F.fz a ∧ Rd H a (.dT kv) ∧ ks = kv.map (·.1) ∧ Rs H F β xs (kv.map (·.2)) := by unfold R at h; exact h
theorem r_bag {v : V} (h : R H F β .bag v) : ∃ b, β.ad = some b ∧ v = .ref b := by unfold R at h; exact h
theorem r_cell {n : Nat} {v : V} (h : R H F β (.cell n) v) : ∃ a, F.cs[n]? = some a ∧ v = .ref a := by unfold R at h; exact h
theorem int_r {i : Int} : R H F β (.int i) (.int i) := by unfold R; rfl
theorem bl_r {i : Bool} : R H F β (.bl i) (.bl i) := by unfold R; rfl
theorem non_r : R H F β .non .non := by unfold R; rfl
theorem str_r {i : Str} : R H F β (.str i) (.str i) := by unfold R; rfl
theorem rs_ints : ∀ {ns : List Int} {vs : List V}, Rs H F β (ns.map D.int) vs → vs = ns.map V.int
  | [], vs, h => by unfold Rs at h; exact h
  | n :: ns, vs, h => by
    obtain ⟨v, r, rfl, h1, h2⟩ := h.uncons
    rw [r_int h1, rs_ints h2]
    rfl
theorem rs_bls : ∀ {ns : List Bool} {vs : List V}, Rs H F β (ns.map D.bl) vs → vs = ns.map V.bl
  | [], vs, h => by unfold Rs at h; exact h
  | n :: ns, vs, h => by
    obtain ⟨v, r, rfl, h1, h2⟩ := h.uncons
    rw [r_bl h1, rs_bls h2]
    rfl
end
abbrev line : Nat := 16777216
theorem line_eq : sizeLine = line := sizeLine_eq

/-! ### whole numbers -/
def addD : D → D → Option D
  | .int i, .int j => some (.int (i + j))
  | .tup xs, .tup ys => if xs.length + ys.length ≤ line then some (.tup (xs ++ ys)) else none
  | .lst xs, .lst ys => if xs.length + ys.length ≤ line then some (.lst (xs ++ ys)) else none
  | _, _ => none
def subD : D → D → Option D
  | .int i, .int j => some (.int (i - j))
  | _, _ => none
def mulD : D → D → Option D
  | .int i, .int j => if (-(2 ^ 64) < i ∧ i < 2 ^ 64) ∨ (-(2 ^ 64) < j ∧ j < 2 ^ 64) then some (.int (i * j)) else none
  | .lst xs, .int k => if -(2 ^ 63) ≤ k ∧ k < 2 ^ 63 ∧ xs.length * k.toNat ≤ line then some (.lst (List.replicate k.toNat xs).flatten) else none
  | .tup xs, .int k => if xs ≠ [] ∧ 2 ≤ k ∧ k ≤ 1000 ∧ xs.length ≤ 1000 then some (.tup (List.replicate k.toNat xs).flatten) else none
  | _, _ => none
def divD : D → D → Option D
  | .int i, .int j => if 0 < j ∧ j < 1073741824 then some (.int (i / j)) else none
  | _, _ => none
def modD : D → D → Option D
  | .int i, .int j => if 0 < j then some (.int (i % j)) else none
  | _, _ => none
def powD : D → D → Option D
  | .int i, .int j => if 0 ≤ j ∧ j ≤ 1000000 ∧ i.natAbs < 2 ^ 64 then some (.int (i ^ j.toNat)) else none
  | _, _ => none
def shlD : D → D → Option D
  | .int i, .int j => if 0 ≤ j ∧ j ≤ 1000000 ∧ i.natAbs < 2 ^ 64 then some (.int (i * 2 ^ j.toNat)) else none
  | _, _ => none
def shrD : D → D → Option D
  | .int i, .int j => if 0 ≤ j then some (.int (i / 2 ^ j.toNat)) else none
  | _, _ => none
def bandD : D → D → Option D
  | .int i, .int j => some (.int (Builtin.bitAnd i j))
  | _, _ => none
def ltD : D → D → Option D
  | .int i, .int j => some (.bl (decide (i < j)))
  | _, _ => none
def leD : D → D → Option D
  | .int i, .int j => some (.bl (decide (i ≤ j)))
  | _, _ => none
def gtD : D → D → Option D
  | .int i, .int j => some (.bl (decide (j < i)))
  | _, _ => none
def geD : D → D → Option D
  | .int i, .int j => some (.bl (decide (j ≤ i)))
  | _, _ => none
def negD : D → Option D
  | .int i => some (.int (-i))
  | _ => none
theorem Rs.rep {H : Hp} {F : Reg} {β : Bx} {ds : List D} {vs : List V} (h : Rs H F β ds vs) : ∀ n : Nat, Rs H F β (List.replicate n ds).flatten (List.replicate n vs).flatten
  | 0 => by simp; exact .nil
  | n + 1 => by
    rw [List.replicate_succ, List.replicate_succ, List.flatten_cons, List.flatten_cons]
    exact h.append (Rs.rep h n)
theorem Rs.ne_nil {H : Hp} {F : Reg} {β : Bx} {ds : List D} {vs : List V} (h : Rs H F β ds vs) : vs = [] ↔ ds = [] := by
  cases ds with
  | nil => unfold Rs at h; simp [h]
  | cons d ds =>
    obtain ⟨v, r, rfl, _, _⟩ := h.uncons
    simp
section
variable {X : Cx} {fr : Fr}
theorem op2_ii {f : Value → Value → Sem Value} {q : D → D → Option D} {C : Int → Int → Prop} {w : Int → Int → V} {z : Int → Int → D} (rule : OpR X f (rI C w)) (hq : ∀ d1 d2 d, q d1 d2 = some d → ∃ i j, d1 = .int i ∧ d2 = .int j ∧ C i j ∧ d = z i j) (hr : ∀ i j H F β, R H F β (z i j) (w i j)) : Op2 X fr f q :=
  ⟨fun H F g x y d1 d2 d b r1 r2 e => by
    obtain ⟨i, j, rfl, rfl, hc, rfl⟩ := hq d1 d2 d e
    exact ⟨_, rule, i, j, r_int r1, r_int r2, hc, hit_here b (hr i j _ _ _)⟩⟩
theorem op2_i0 {f : Value → Value → Sem Value} {q : D → D → Option D} {w : Int → Int → V} {z : Int → Int → D} (rule : OpR X f (rI0 w)) (hq : ∀ d1 d2 d, q d1 d2 = some d → ∃ i j, d1 = .int i ∧ d2 = .int j ∧ d = z i j) (hr : ∀ i j H F β, R H F β (z i j) (w i j)) : Op2 X fr f q :=
  ⟨fun H F g x y d1 d2 d b r1 r2 e => by
    obtain ⟨i, j, rfl, rfl, rfl⟩ := hq d1 d2 d e
    exact ⟨_, rule, i, j, r_int r1, r_int r2, hit_here b (hr i j _ _ _)⟩⟩
theorem o_sub : Op2 X fr (binaryOp .Sub) subD := op2_i0 op_sub (z := fun i j => .int (i - j)) (fun d1 d2 d e => by unfold subD at e; split at e <;> cases e; exact ⟨_, _, rfl, rfl, rfl⟩) fun _ _ _ _ _ => int_r
theorem o_band : Op2 X fr (binaryOp .BitAnd) bandD := op2_i0 op_and (z := fun i j => .int (Builtin.bitAnd i j)) (fun d1 d2 d e => by unfold bandD at e; split at e <;> cases e; exact ⟨_, _, rfl, rfl, rfl⟩) fun _ _ _ _ _ => int_r
theorem o_lt : Op2 X fr (compareOp .Lt) ltD := op2_i0 op_lt (z := fun i j => .bl (decide (i < j))) (fun d1 d2 d e => by unfold ltD at e; split at e <;> cases e; exact ⟨_, _, rfl, rfl, rfl⟩) fun _ _ _ _ _ => bl_r
theorem o_le : Op2 X fr (compareOp .LtE) leD := op2_i0 op_le (z := fun i j => .bl (decide (i ≤ j))) (fun d1 d2 d e => by unfold leD at e; split at e <;> cases e; exact ⟨_, _, rfl, rfl, rfl⟩) fun _ _ _ _ _ => bl_r
theorem o_gt : Op2 X fr (compareOp .Gt) gtD := op2_i0 op_gt (z := fun i j => .bl (decide (j < i))) (fun d1 d2 d e => by unfold gtD at e; split at e <;> cases e; exact ⟨_, _, rfl, rfl, rfl⟩) fun _ _ _ _ _ => bl_r
theorem o_ge : Op2 X fr (compareOp .GtE) geD := op2_i0 op_ge (z := fun i j => .bl (decide (j ≤ i))) (fun d1 d2 d e => by unfold geD at e; split at e <;> cases e; exact ⟨_, _, rfl, rfl, rfl⟩) fun _ _ _ _ _ => bl_r
theorem o_div : Op2 X fr (binaryOp .FloorDiv) divD := op2_ii op_fdiv (z := fun i j => .int (i / j)) (fun d1 d2 d e => by
  unfold divD at e
  split at e
  · split at e
    · cases e; exact ⟨_, _, rfl, rfl, by assumption, rfl⟩
    · cases e
  · cases e) fun _ _ _ _ _ => int_r
theorem o_mod : Op2 X fr (binaryOp .Mod) modD := op2_ii op_mod (z := fun i j => .int (i % j)) (fun d1 d2 d e => by
  unfold modD at e
  split at e
  · split at e
    · cases e; exact ⟨_, _, rfl, rfl, by assumption, rfl⟩
    · cases e
  · cases e) fun _ _ _ _ _ => int_r
theorem o_pow : Op2 X fr (binaryOp .Pow) powD := op2_ii op_pow (z := fun i j => .int (i ^ j.toNat)) (fun d1 d2 d e => by
  unfold powD at e
  split at e
  · split at e
    · cases e; exact ⟨_, _, rfl, rfl, by assumption, rfl⟩
    · cases e
  · cases e) fun _ _ _ _ _ => int_r
theorem o_shl : Op2 X fr (binaryOp .LShift) shlD := op2_ii op_shl (z := fun i j => .int (i * 2 ^ j.toNat)) (fun d1 d2 d e => by
  unfold shlD at e
  split at e
  · split at e
    · cases e; exact ⟨_, _, rfl, rfl, by assumption, rfl⟩
    · cases e
  · cases e) fun _ _ _ _ _ => int_r
theorem o_shr : Op2 X fr (binaryOp .RShift) shrD := op2_ii op_shr (z := fun i j => .int (i / 2 ^ j.toNat)) (fun d1 d2 d e => by
  unfold shrD at e
  split at e
  · split at e
    · cases e; exact ⟨_, _, rfl, rfl, by assumption, rfl⟩
    · cases e
  · cases e) fun _ _ _ _ _ => int_r
theorem o_neg : Op1 X fr (unaryOp .USub) negD := ⟨fun H F g x d1 d b r1 e => by
  cases d1 with
  | int i =>
    cases e
    exact ⟨_, un_neg, i, r_int r1, hit_here b int_r⟩
  | _ => cases e⟩
theorem o_add : Op2 X fr (binaryOp .Add) addD := ⟨fun H F g x y d1 d2 d b r1 r2 e => by
  cases d1 with
  | int i =>
    cases d2 with
    | int j =>
      cases e
      exact ⟨_, op_add, i, j, r_int r1, r_int r2, hit_here b int_r⟩
    | _ => cases e
  | tup xs =>
    cases d2 with
    | tup ys =>
      unfold addD at e
      dsimp only at e
      split at e
      · rename_i hl
        cases e
        have r2' := r2
        have r1' := r1
        obtain ⟨a, vs, rfl, h1, q1⟩ := r_tup r1
        obtain ⟨a2, vs2, rfl, h2, q2⟩ := r_tup r2
        refine ⟨_, op_catA, a, a2, vs, vs2, rfl, rfl, SqT.of h1, SqT.of h2, ?_, fun z => ?_, fun z1 z => ?_, fun _ _ p hp => hit_tup b (q1.append q2) hp⟩
        · rw [← q1.length, ← q2.length, line_eq]; exact hl
        · rw [q1.ne_nil.mp z, List.nil_append]; exact hit_here b r2'
        · rw [q2.ne_nil.mp z, List.append_nil]; exact hit_here b r1'
      · cases e
    | _ => cases e
  | lst xs =>
    cases d2 with
    | lst ys =>
      unfold addD at e
      dsimp only at e
      split at e
      · rename_i hl
        cases e
        obtain ⟨a, vs, rfl, f1, h1, q1⟩ := r_lst r1
        obtain ⟨a2, vs2, rfl, f2, h2, q2⟩ := r_lst r2
        exact ⟨_, op_cat, a, a2, vs, vs2, rfl, rfl, h1, h2, by rw [← q1.length, ← q2.length, line_eq]; exact hl, fun p hp => hit_lst b (q1.append q2) hp⟩
      · cases e
    | _ => cases e
  | _ => cases e⟩
theorem o_mul : Op2 X fr (binaryOp .Mult) mulD := ⟨fun H F g x y d1 d2 d b r1 r2 e => by
  cases d2 with
  | int k =>
    cases d1 with
    | int i =>
      unfold mulD at e
      dsimp only at e
      split at e
      · rename_i hl
        cases e
        exact ⟨_, op_mul, i, k, r_int r1, r_int r2, hl, hit_here b int_r⟩
      · cases e
    | lst xs =>
      unfold mulD at e
      dsimp only at e
      split at e
      · rename_i hl
        cases e
        obtain ⟨a, vs, rfl, f1, h1, q1⟩ := r_lst r1
        exact ⟨_, op_rep, a, k, vs, rfl, r_int r2, h1, hl.1, hl.2.1, by rw [← q1.length, line_eq]; exact hl.2.2, fun p hp => hit_lst b (q1.rep _) hp⟩
      · cases e
    | tup xs =>
      unfold mulD at e
      dsimp only at e
      split at e
      · rename_i hl
        cases e
        obtain ⟨a, vs, rfl, h1, q1⟩ := r_tup r1
        exact ⟨_, op_repT, a, k, vs, rfl, r_int r2, SqT.of h1, fun z => hl.1 (q1.ne_nil.mp z), hl.2.1, hl.2.2.1, by rw [← q1.length]; exact hl.2.2.2, fun p hp => hit_tup b (q1.rep _) hp⟩
      · cases e
    | _ => cases e
  | _ => cases d1 <;> cases e⟩
end

/-! ### == of data -/
mutual
def toPy : D → PyData
  | .non => .none
  | .bl b => .bool b
  | .int i => .int i
  | .str x => .str x
  | .tup xs => .tuple (toPys xs)
  | .lst xs => .list (toPys xs)
  | .dK _ _ => .dict []
  | .dT _ _ => .dict []
  | .bag => .dict []
  | .cell _ => .dict []
def toPys : List D → List PyData
  | [] => []
  | d :: ds => toPy d :: toPys ds
end
mutual
theorem R.dp {K : PySem.W.Frag} {H : Hp} {F : Reg} {β : Bx} : ∀ (d : D) (v : V), (toPy d).plain = true → R H F β d v → Dp K H v (toPy d)
  | .non, v, _, h => by rw [r_non h]; exact .non
  | .bl b, v, _, h => by rw [r_bl h]; exact .bl b
  | .int i, v, _, h => by rw [r_int h]; exact .int i
  | .str x, v, _, h => by rw [r_str h]; exact .str x
  | .tup xs, v, p, h => by
    obtain ⟨a, vs, rfl, h1, q⟩ := r_tup h
    exact .tup (SqT.of h1) (Rs.dp xs vs p q)
  | .lst xs, v, p, h => by
    obtain ⟨a, vs, rfl, _, h1, q⟩ := r_lst h
    exact .lst (SqL.of h1) (Rs.dp xs vs p q)
  | .dK _ _, _, p, _ => by simp [toPy, PyData.plain] at p
  | .dT _ _, _, p, _ => by simp [toPy, PyData.plain] at p
  | .bag, _, p, _ => by simp [toPy, PyData.plain] at p
  | .cell _, _, p, _ => by simp [toPy, PyData.plain] at p
theorem Rs.dp {K : PySem.W.Frag} {H : Hp} {F : Reg} {β : Bx} : ∀ (ds : List D) (vs : List V), PyData.plainAll (toPys ds) = true → Rs H F β ds vs → DpAll K H vs (toPys ds)
  | [], vs, _, h => by unfold Rs at h; subst h; exact .nil
  | d :: ds, vs, p, h => by
    obtain ⟨v, r, rfl, h1, h2⟩ := h.uncons
    simp only [toPys, PyData.plainAll, Bool.and_eq_true] at p
    exact .cons (R.dp d v p.1 h1) (Rs.dp ds r p.2 h2)
end
def eqD (d e : D) : Option Bool := if (toPy d).plain = true ∧ (toPy e).plain = true ∧ min (toPy d).depth (toPy e).depth ≤ 60 then some (PyData.eqv (toPy d) (toPy e)) else none
def eqVD (d e : D) : Option D := (eqD d e).map .bl
def neVD (d e : D) : Option D := (eqD d e).map fun b => .bl (!b)
section
variable {X : Cx} {fr : Fr}
def rEqP (K : PySem.W.Frag) : R2 := fun x y H Q => ∃ d e, Dp K H x d ∧ Dp K H y e ∧ d.plain = true ∧ e.plain = true ∧ min d.depth e.depth ≤ 60 ∧ Q (.bl (PyData.eqv d e)) H
def rNeP (K : PySem.W.Frag) : R2 := fun x y H Q => ∃ d e, Dp K H x d ∧ Dp K H y e ∧ d.plain = true ∧ e.plain = true ∧ min d.depth e.depth ≤ 60 ∧ Q (.bl (!PyData.eqv d e)) H
theorem op_eqP (hu : X.A.units + 64 < cLine) : OpR X (compareOp .Eq) (rEqP X.K) := by
  intro pins s σ H x y v u Q I rx ry h
  obtain ⟨d, e, hd, he, sd, se, hz, q⟩ := h
  obtain ⟨as, r1⟩ := Dp.reads I d x v hd rx
  obtain ⟨bs, r2⟩ := Dp.reads I e y u he ry
  exact SeqAt.eq_plain r1 r2 sd se (by omega) ⟨.bl _, H, I, rfl, q⟩
theorem op_neP (hu : X.A.units + 64 < cLine) : OpR X (compareOp .NotEq) (rNeP X.K) := by
  intro pins s σ H x y v u Q I rx ry h
  obtain ⟨d, e, hd, he, sd, se, hz, q⟩ := h
  obtain ⟨as, r1⟩ := Dp.reads I d x v hd rx
  obtain ⟨bs, r2⟩ := Dp.reads I e y u he ry
  exact SeqAt.ne_plain r1 r2 sd se (by omega) ⟨.bl _, H, I, rfl, q⟩
theorem o_eq (hu : X.A.units + 64 < cLine) : Op2 X fr (compareOp .Eq) eqVD := ⟨fun H F g x y d1 d2 d b r1 r2 e => by
  unfold eqVD eqD at e
  split at e
  · rename_i hl
    cases e
    exact ⟨_, op_eqP hu, _, _, R.dp _ _ hl.1 r1, R.dp _ _ hl.2.1 r2, hl.1, hl.2.1, hl.2.2, hit_here b bl_r⟩
  · cases e⟩
theorem o_ne (hu : X.A.units + 64 < cLine) : Op2 X fr (compareOp .NotEq) neVD := ⟨fun H F g x y d1 d2 d b r1 r2 e => by
  unfold neVD eqD at e
  split at e
  · rename_i hl
    cases e
    exact ⟨_, op_neP hu, _, _, R.dp _ _ hl.1 r1, R.dp _ _ hl.2.1 r2, hl.1, hl.2.1, hl.2.2, hit_here b bl_r⟩
  · cases e⟩
end

/-! ### is None, is a truth -/
def isNonD : D → D → Option D
  | .non, .non => some (.bl true)
  | _, .non => some (.bl false)
  | _, _ => none
def notNonD : D → D → Option D
  | .non, .non => some (.bl false)
  | _, .non => some (.bl true)
  | _, _ => none
section
variable {X : Cx} {fr : Fr}
theorem r_notnon {H : Hp} {F : Reg} {β : Bx} {d : D} {v : V} (h : R H F β d v) (n : d ≠ .non) : v ≠ .non := by
  cases d with
  | non => exact absurd rfl n
  | bl _ => rw [r_bl h]; exact fun z => nomatch z
  | int _ => rw [r_int h]; exact fun z => nomatch z
  | str _ => rw [r_str h]; exact fun z => nomatch z
  | tup _ => obtain ⟨a, vs, rfl, _⟩ := r_tup h; exact fun z => nomatch z
  | lst _ => obtain ⟨a, vs, rfl, _⟩ := r_lst h; exact fun z => nomatch z
  | dK _ _ => obtain ⟨a, vs, rfl, _⟩ := r_dK h; exact fun z => nomatch z
  | dT _ _ => obtain ⟨a, vs, rfl, _⟩ := r_dT h; exact fun z => nomatch z
  | bag => obtain ⟨a, _, rfl⟩ := r_bag h; exact fun z => nomatch z
  | cell _ => obtain ⟨a, _, rfl⟩ := r_cell h; exact fun z => nomatch z
theorem o_isN : Op2 X fr (compareOp .Is) isNonD := ⟨fun H F g x y d1 d2 d b r1 r2 e => by
  cases d2 with
  | non =>
    refine ⟨_, op_isN, r_non r2, ?_⟩
    by_cases n : d1 = .non
    · subst n
      cases e
      rw [r_non r1]
      exact hit_here b bl_r
    · have e2 : d = .bl false := by
        cases d1 <;> first | exact absurd rfl n | exact (Option.some.inj e).symm
      subst e2
      rw [decide_eq_false (r_notnon r1 n)]
      exact hit_here b bl_r
  | _ => cases d1 <;> cases e⟩
theorem o_notN : Op2 X fr (compareOp .IsNot) notNonD := ⟨fun H F g x y d1 d2 d b r1 r2 e => by
  cases d2 with
  | non =>
    refine ⟨_, op_notN, r_non r2, ?_⟩
    by_cases n : d1 = .non
    · subst n
      cases e
      rw [r_non r1]
      exact hit_here b bl_r
    · have e2 : d = .bl true := by
        cases d1 <;> first | exact absurd rfl n | exact (Option.some.inj e).symm
      subst e2
      rw [decide_eq_false (r_notnon r1 n)]
      exact hit_here b bl_r
  | _ => cases d1 <;> cases e⟩
end
end VC

/-! VC5: what is walked; targets; list comprehensions. -/
namespace VC
open PySem PySem.Spec L2 RZ
open PyProof.Rows hiding St

/-! ### what stays while a walk goes -/
structure Kp (F : Reg) (H H' : Hp) : Prop where
  tup : ∀ a xs, H a = some (.tup xs) → H' a = some (.tup xs)
  reg : ∀ a u, F.fz a → H a = some u → H' a = some u
theorem Kp.refl (F : Reg) (H : Hp) : Kp F H H := ⟨fun _ _ h => h, fun _ _ _ h => h⟩
theorem Kp.trans {F F1 : Reg} {H H1 H2 : Hp} (a : Kp F H H1) (b : Kp F1 H1 H2) (hF : F.le F1) : Kp F H H2 := ⟨fun x xs h => b.tup x xs (a.tup x xs h), fun x u f h => b.reg x u (hF.fz x f) (a.reg x u f h)⟩
theorem Kp.of {β : Bx} {F F' : Reg} {H H' : Hp} {g : Bag} (b : BagOk β F H g) (e : Ext β F H F' H') : Kp F H H' := ⟨fun _ _ h => e.tupAt b h, fun a u f h => (e.fzAt b a f).2 u h⟩
theorem R.kp {F F1 : Reg} {H H1 : Hp} {β : Bx} {d : D} {v : V} (h : R H F β d v) (k : Kp F H H1) (hF : F.le F1) : R H1 F1 β d v := R.mono k.tup (fun a f => ⟨hF.fz a f, fun u h => k.reg a u f h⟩) (fun _ _ => hF.at) d v h
theorem Rs.kp {F F1 : Reg} {H H1 : Hp} {β : Bx} {d : List D} {v : List V} (h : Rs H F β d v) (k : Kp F H H1) (hF : F.le F1) : Rs H1 F1 β d v := Rs.mono k.tup (fun a f => ⟨hF.fz a f, fun u h => k.reg a u f h⟩) (fun _ _ => hF.at) d v h

/-- what may change: the bag, the cells -/
def Mv (β : Bx) (F : Reg) (b : Addr) : Prop := β.ad = some b ∨ b ∈ F.cs
theorem BagOk.mv {β : Bx} {F : Reg} {H : Hp} {g : Bag} (b : BagOk β F H g) {x : Addr} (h : Mv β F x) : ∃ o, H x = some o := by
  rcases h with h | h
  · exact ⟨_, (b.at_ x h).2⟩
  · obtain ⟨_, _, _, _, q⟩ := b.cellAt h
    obtain ⟨u, e, _⟩ := q.there
    exact ⟨u, e⟩
/-- nothing that may change has changed -/
theorem BagOk.still {β : Bx} {F : Reg} {H H' : Hp} {g : Bag} (b : BagOk β F H g) (e : Ext β F H F H') (h : ∀ x, Mv β F x → H' x = H x) : BagOk β F H' g :=
  b.ext e (fun x q => h x (.inl q)) (fun a f z => b.live a f (e.there a z)) rfl fun a u m q => by rw [h a (.inr m)]; exact q
/-- a walk gives these -/
def WkOk (β : Bx) (F : Reg) (H : Hp) (J : It) (ds : List D) : Prop := ∃ G Y, Walk J ds.length G Y ∧ (∀ H1, Kp F H H1 → G H1) ∧
  ∀ i H1 F1 x H2, i < ds.length → Kp F H H1 → (F.le F1) → (∀ b, Mv β F1 b → ∃ o, H1 b = some o) → Y i H1 x H2 → ∃ d, ds[i]? = some d ∧ Ext β F1 H1 F1 H2 ∧ (∀ b, Mv β F1 b → H2 b = H1 b) ∧ R H2 F1 β d x
abbrev IX := Slots → M (List D)
def GotI (fr : Fr) (F : Reg) (σ : St) (H : Hp) (R : It → Hp → Prop) : Out (List D) → Prop
  | .bad => False
  | .ok ds g' => ∀ J H' F', Ext fr.β F H F' H' → BagOk fr.β F' H' g' → WkOk fr.β F' H' J ds → R J H'
  | .exn c p g' => ∀ H' F' cls dd, Ext fr.β F H F' H' → BagOk fr.β F' H' g' → ExcAt fr F' H' c p cls dd → fr.W cls dd σ H'
def iV (fr : Fr) (ι : IX) : TI := fun σ H R => ∃ env F g, ER fr F env σ H g ∧ GotI fr F σ H R (ι env g)
def IV (X : Cx) (fr : Fr) (tg iter : Expr) (ι : IX) : Prop := PI X tg iter (iV fr ι)
section
variable {X : Cx} {fr : Fr} {pos : Pos} {e : Expr} {es : List Expr} {ρ : EX} {ρs : AX} {tg : Expr}
theorem gotEI {F : Reg} {σ : St} {H : Hp} {P : It → Hp → Prop} {env : Slots} {g : Bag} {f : D → M (List D)} (r : ER fr F env σ H g) (hg : GotI fr F σ H P (M.bnd (ρ env) f g))
    {Q' : VK} (k : ∀ d g' H' F' v, ρ env g = .ok d g' → Ext fr.β F H F' H' → ER fr F' env σ H' g' → R H' F' fr.β d v → GotI fr F' σ H' P (f d g') → Q' v H') : tE fr ρ σ H Q' := by
  refine ⟨env, F, g, r, ?_⟩
  unfold M.bnd at hg
  cases ho : ρ env g with
  | bad => rw [ho] at hg; exact hg
  | exn c p g' => rw [ho] at hg; exact hg
  | ok d g' =>
    rw [ho] at hg
    have hg : GotI fr F σ H P (f d g') := hg
    intro v H' F' ex b q
    refine k d g' H' F' v ho ex (r.ext ex b) q ?_
    cases h2 : f d g' with
    | bad => rw [h2] at hg; exact hg.elim
    | ok d2 g2 => rw [h2] at hg; exact fun J H2 F2 e2 b2 => hg J H2 F2 (ex.trans e2) b2
    | exn c p g2 => rw [h2] at hg; exact fun H2 F2 cls dd e2 b2 => hg H2 F2 cls dd (ex.trans e2) b2
theorem gotLI {F : Reg} {σ : St} {H : Hp} {P : It → Hp → Prop} {env : Slots} {g : Bag} {f : List D → M (List D)} (r : ER fr F env σ H g) (hg : GotI fr F σ H P (M.bnd (ρs env) f g))
    {Q' : List V → Hp → Prop} (k : ∀ d g' H' F' v, ρs env g = .ok d g' → Ext fr.β F H F' H' → ER fr F' env σ H' g' → Rs H' F' fr.β d v → GotI fr F' σ H' P (f d g') → Q' v H') : tA fr ρs σ H Q' := by
  refine ⟨env, F, g, r, ?_⟩
  unfold M.bnd at hg
  cases ho : ρs env g with
  | bad => rw [ho] at hg; exact hg
  | exn c p g' => rw [ho] at hg; exact hg
  | ok d g' =>
    rw [ho] at hg
    have hg : GotI fr F σ H P (f d g') := hg
    intro v H' F' ex b q
    refine k d g' H' F' v ho ex (r.ext ex b) q ?_
    cases h2 : f d g' with
    | bad => rw [h2] at hg; exact hg.elim
    | ok d2 g2 => rw [h2] at hg; exact fun J H2 F2 e2 b2 => hg J H2 F2 (ex.trans e2) b2
    | exn c p g2 => rw [h2] at hg; exact fun H2 F2 cls dd e2 b2 => hg H2 F2 cls dd (ex.trans e2) b2
theorem ofOI_got {o : Option (List D)} {F : Reg} {σ : St} {H : Hp} {P : It → Hp → Prop} {g : Bag} (h : GotI fr F σ H P (M.ofO o g)) : ∃ a, o = some a ∧ GotI fr F σ H P (.ok a g) := by
  cases o with
  | none => exact (show False from h).elim
  | some a => exact ⟨a, rfl, h⟩
/-- a walk whose items are read off a list of values -/
theorem wk_vals {β : Bx} {F : Reg} {H : Hp} {J : It} {ds : List D} {vs : List V} {G : Hp → Prop} (q : Rs H F β ds vs) (w : Walk J vs.length G (YAt vs)) (hG : ∀ H1, Kp F H H1 → G H1) : WkOk β F H J ds :=
  ⟨G, YAt vs, by rw [q.length]; exact w, hG, fun i H1 F1 x H2 hi k hF hb y => by
    obtain ⟨rfl, e⟩ := y
    obtain ⟨d, e2, r⟩ := q.getV e
    exact ⟨d, e2, Ext.refl _ _ _, fun _ _ => rfl, r.kp k hF⟩⟩
def itemsD : D → Option (List D)
  | .lst xs => some xs
  | .tup xs => some xs
  | _ => none
def seqI (ρ : EX) : IX := fun env => M.bnd (ρ env) fun d => M.ofO (itemsD d)
theorem iv_seq (he : EV X fr e ρ) : IV X fr tg e (seqI ρ) := by
  refine ⟨fun pins s σ H P I ⟨env, F, g, r, hg⟩ => ?_⟩
  have hz : ∃ d g', ρ env g = .ok d g' ∨ ∃ c p g', ρ env g = .exn c p g' := by
    cases ho : ρ env g with
    | bad => unfold seqI M.bnd at hg; rw [ho] at hg; exact hg.elim
    | ok d g' => exact ⟨d, g', .inl rfl⟩
    | exn c p g' => exact ⟨.non, g', .inr ⟨c, p, g', rfl⟩⟩
  have tupC : (∀ d g', ρ env g = .ok d g' → ∃ xs, d = .tup xs) → wpAny (model X.prog X.w) X.A (eval e X.env) (fun v s1 => wpAny (model X.prog X.w) X.A (pyIter v) (PIE X pins σ tg P) X.xe s1) X.xe s := fun hd => by
    refine (pi_tup (tg := tg) he).run pins s σ H P I (gotEI r hg fun d g1 H1 F1 v ho ex er q hq => ?_)
    obtain ⟨xs, rfl⟩ := hd d g1 ho
    obtain ⟨ys, ey, hq⟩ := ofOI_got hq
    cases ey
    obtain ⟨a, vs, rfl, h1, q1⟩ := r_tup q
    exact ⟨a, rfl, ⟨vs, SqT.of h1⟩, hq _ H1 F1 (Ext.refl _ _ _) er.bag (wk_vals q1 walk_tup fun H2 k => SqT.of (k.tup a vs h1))⟩
  have lstC : (∀ d g', ρ env g = .ok d g' → ∃ xs, d = .lst xs) → wpAny (model X.prog X.w) X.A (eval e X.env) (fun v s1 => wpAny (model X.prog X.w) X.A (pyIter v) (PIE X pins σ tg P) X.xe s1) X.xe s := fun hd => by
    refine (pi_list (tg := tg) he).run pins s σ H P I (gotEI r hg fun d g1 H1 F1 v ho ex er q hq => ?_)
    obtain ⟨xs, rfl⟩ := hd d g1 ho
    obtain ⟨ys, ey, hq⟩ := ofOI_got hq
    cases ey
    obtain ⟨a, vs, rfl, f1, h1, q1⟩ := r_lst q
    exact ⟨a, rfl, ⟨vs, SqL.of h1⟩, hq _ H1 F1 (Ext.refl _ _ _) er.bag (wk_vals q1 walk_list fun H2 k => SqL.of (k.reg a _ f1 h1))⟩
  obtain ⟨d, g', ho | ⟨c, p, g2, ho⟩⟩ := hz
  · unfold seqI M.bnd at hg
    rw [ho] at hg
    have hg : GotI fr F σ H P (M.ofO (itemsD d) g') := hg
    cases d with
    | tup xs => exact tupC fun d2 g2 h2 => by rw [ho] at h2; cases h2; exact ⟨xs, rfl⟩
    | lst xs => exact lstC fun d2 g2 h2 => by rw [ho] at h2; cases h2; exact ⟨xs, rfl⟩
    | _ => exact hg.elim
  · exact tupC fun d2 g3 h2 => by rw [ho] at h2; cases h2
/-- range(n), range(a, b) -/
def rngD (lo : Int) (n : Nat) : List D := (List.range n).map fun (i : Nat) => D.int (lo + (i : Int))
def rng1I (ρs : AX) : IX := fun env => M.bnd (ρs env) fun ds => M.ofO (match ds with
  | [.int j] => if -(2 ^ 62) ≤ j ∧ j < 2 ^ 62 then some (rngD 0 j.toNat) else none
  | _ => none)
def rng2I (ρs : AX) : IX := fun env => M.bnd (ρs env) fun ds => M.ofO (match ds with
  | [.int i, .int j] => if -(2 ^ 62) ≤ i ∧ i < 2 ^ 62 ∧ -(2 ^ 62) ≤ j ∧ j < 2 ^ 62 then some (rngD i (j - i).toNat) else none
  | _ => none)
theorem wk_range {β : Bx} {F : Reg} {H : Hp} {lo : Int} {n : Nat} : WkOk β F H (Itr lo n) (rngD lo n) := by
  refine ⟨fun _ => True, YFn fun i => .int (lo + i), by rw [show (rngD lo n).length = n by simp [rngD]]; exact walk_range, fun _ _ => trivial, fun i H1 F1 x H2 hi k hF hb y => ?_⟩
  obtain ⟨rfl, rfl⟩ := y
  have hi : i < n := by simpa [rngD] using hi
  exact ⟨.int (lo + i), by simp [rngD, hi], Ext.refl _ _ _, fun _ _ => rfl, int_r⟩
theorem iv_range1 {a : Expr} {p : Pos} (hg : Gl X "range") (hm : X.mg "range" = none) (ha : AV X fr [a] ρs) (hs : starEach [a] X.env = [(false, eval a X.env)] := by rfl) : IV X fr tg (.Call (.Name "range" p) [a] [] pos) (rng1I ρs) := by
  refine ⟨fun pins s σ H P I ⟨env, F, g, r, hgt⟩ => (pi_range1 (tg := tg) hg hm ha hs).run pins s σ H P I (gotLI r hgt fun ds g1 H1 F1 vs ho ex er q hq => ?_)⟩
  obtain ⟨ys, ey, hq⟩ := ofOI_got hq
  split at ey
  · rename_i j
    split at ey
    · rename_i hl
      cases ey
      obtain ⟨v, r2, rfl, h1, h2⟩ := q.uncons
      unfold Rs at h2
      subst h2
      rw [r_int h1]
      exact ⟨j, rfl, hl.1, hl.2, hq _ H1 F1 (Ext.refl _ _ _) er.bag wk_range⟩
    · cases ey
  · cases ey
theorem iv_range2 {a b : Expr} {p : Pos} (hg : Gl X "range") (hm : X.mg "range" = none) (ha : AV X fr [a, b] ρs) (hs : starEach [a, b] X.env = [(false, eval a X.env), (false, eval b X.env)] := by rfl) (hs2 : starEach [b] X.env = [(false, eval b X.env)] := by rfl) :
    IV X fr tg (.Call (.Name "range" p) [a, b] [] pos) (rng2I ρs) := by
  refine ⟨fun pins s σ H P I ⟨env, F, g, r, hgt⟩ => (pi_range2 (tg := tg) hg hm ha hs hs2).run pins s σ H P I (gotLI r hgt fun ds g1 H1 F1 vs ho ex er q hq => ?_)⟩
  obtain ⟨ys, ey, hq⟩ := ofOI_got hq
  split at ey
  · rename_i i j
    split at ey
    · rename_i hl
      cases ey
      obtain ⟨v, r2, rfl, h1, h2⟩ := q.uncons
      obtain ⟨v2, r3, rfl, h3, h4⟩ := h2.uncons
      unfold Rs at h4
      subst h4
      rw [r_int h1, r_int h3]
      exact ⟨i, j, rfl, hl, hq _ H1 F1 (Ext.refl _ _ _) er.bag wk_range⟩
    · cases ey
  · cases ey
/-- new pairs -/
theorem wk_pairs {β : Bx} {F : Reg} {H : Hp} {J : It} {ds : List D} {f1 f2 : Nat → Option V} {G : Hp → Prop} (w : Walk J ds.length G (YPair f1 f2)) (hG : ∀ H1, Kp F H H1 → G H1)
    (hd : ∀ i x y, i < ds.length → f1 i = some x → f2 i = some y → ∃ d1 d2, ds[i]? = some (.tup [d1, d2]) ∧ R H F β d1 x ∧ R H F β d2 y) : WkOk β F H J ds :=
  ⟨G, _, w, hG, fun i H1 F1 x H2 hi k hF hb y => by
    obtain ⟨T, x1, y1, rfl, hT, rfl, e1, e2⟩ := y
    obtain ⟨d1, d2, e, r1, r2⟩ := hd i x1 y1 hi e1 e2
    refine ⟨_, e, Ext.put hT, fun b eb => ?_, ?_⟩
    · obtain ⟨o, ho⟩ := hb b eb
      exact upd_ne (ne_of_none ho hT)
    · have kk : Kp F H (upd H1 T (.tup [x1, y1])) := ⟨fun a xs h => by rw [upd_ne (ne_of_none (k.tup a xs h) hT)]; exact k.tup a xs h, fun a u f h => by rw [upd_ne (ne_of_none (k.reg a u f h) hT)]; exact k.reg a u f h⟩
      unfold R
      exact ⟨T, _, rfl, upd_same, .cons (r1.kp kk hF) (.cons (r2.kp kk hF) .nil)⟩⟩
def enumD : Nat → List D → List D
  | _, [] => []
  | i, d :: ds => .tup [.int i, d] :: enumD (i + 1) ds
theorem enumD_length : ∀ (ds : List D) (i : Nat), (enumD i ds).length = ds.length
  | [], _ => rfl
  | d :: ds, i => by simp [enumD, enumD_length ds]
theorem enumD_get : ∀ (ds : List D) (i k : Nat), (enumD i ds)[k]? = ds[k]?.map fun d => .tup [.int ((i + k : Nat) : Int), d]
  | [], _, _ => by simp [enumD]
  | d :: ds, i, 0 => by simp [enumD]
  | d :: ds, i, k + 1 => by
    simp only [enumD, List.getElem?_cons_succ]
    rw [enumD_get ds (i + 1) k, show i + 1 + k = i + (k + 1) by omega]
def zipD : List D → List D → List D
  | d :: ds, e :: es => .tup [d, e] :: zipD ds es
  | _, _ => []
theorem zipD_length : ∀ (ds es : List D), (zipD ds es).length = min ds.length es.length
  | [], es => by simp [zipD]
  | d :: ds, [] => by simp [zipD]
  | d :: ds, e :: es => by simp only [zipD, List.length_cons, zipD_length ds es]; omega
theorem zipD_get : ∀ (ds es : List D) (k : Nat) (d e : D), ds[k]? = some d → es[k]? = some e → (zipD ds es)[k]? = some (.tup [d, e])
  | [], _, _, _, _, h, _ => by simp at h
  | d :: ds, [], _, _, _, _, h => by simp at h
  | d :: ds, e :: es, 0, _, _, h, h2 => by simp at h h2; subst h h2; rfl
  | d :: ds, e :: es, k + 1, _, _, h, h2 => by
    simp only [zipD, List.getElem?_cons_succ] at h h2 ⊢
    exact zipD_get ds es k _ _ h h2
def enumI (ρs : AX) : IX := fun env => M.bnd (ρs env) fun ds => M.ofO (match ds with
  | [.lst xs] => some (enumD 0 xs)
  | _ => none)
theorem iv_enum {p tpos : Pos} {elts : List Expr} {kk : Nat} (hg : Gl X "enumerate") (hm : X.mg "enumerate" = none) (ha : AV X fr [e] ρs) (hs : starEach [e] X.env = [(false, eval e X.env)] := by rfl) :
    IV X fr (.Tuple elts kk tpos) (.Call (.Name "enumerate" p) [e] [] pos) (enumI ρs) := by
  refine ⟨fun pins s σ H P I ⟨env, F, g, r, hgt⟩ => (pi_enum hg hm ha hs).run pins s σ H P I (gotLI r hgt fun ds g1 H1 F1 vs ho ex er q hq => ?_)⟩
  obtain ⟨ys, ey, hq⟩ := ofOI_got hq
  split at ey
  · rename_i xs
    cases ey
    obtain ⟨v, r2, rfl, h1, h2⟩ := q.uncons
    unfold Rs at h2
    subst h2
    obtain ⟨a, us, rfl, f1, ha1, q1⟩ := r_lst h1
    refine ⟨a, us, rfl, SqL.of ha1, hq _ H1 F1 (Ext.refl _ _ _) er.bag (wk_pairs (ds := enumD 0 xs) (by rw [enumD_length, q1.length]; exact walk_enum) (fun H2 k => SqL.of (k.reg a _ f1 ha1)) fun i x y hi e1 e2 => ?_)⟩
    obtain ⟨d, ed, rd⟩ := q1.getV e2
    refine ⟨.int i, d, by rw [enumD_get, ed]; simp, ?_, rd⟩
    cases e1
    exact int_r
  · cases ey
theorem walk_zipT {K : PySem.W.Frag} {a b : Addr} {xs ys : List V} {n : Nat} (hn : n = min xs.length ys.length) : Walk (ItzT K a b) n (fun H => SqT K H a xs ∧ SqT K H b ys) (YPair (fun i => xs[i]?) (fun i => ys[i]?)) := by
  subst hn
  refine ⟨fun i _ hi q => ?_, fun _ q => ⟨xs, ys, q.1, q.2, by omega⟩, fun i H v H' _ q y => ?_⟩
  · have h1 : i < xs.length := by omega
    have h2 : i < ys.length := by omega
    exact ⟨xs, ys, xs[i], ys[i], q.1, q.2, by simp [h1], by simp [h2]⟩
  · obtain ⟨T, x, z, h1, h2, h3, h4, h5⟩ := y
    exact ⟨T, x, z, h1, h2, h3, h4 xs q.1, h5 ys q.2⟩
def zipI (ρs : AX) : IX := fun env => M.bnd (ρs env) fun ds => M.ofO (match ds with
  | [.lst xs, .lst ys] => some (zipD xs ys)
  | [.tup xs, .tup ys] => some (zipD xs ys)
  | _ => none)
theorem iv_zip {e2 : Expr} {p tpos : Pos} {elts : List Expr} {kk : Nat} (hg : Gl X "zip") (hm : X.mg "zip" = none) (ha : AV X fr [e, e2] ρs)
    (hs : starEach [e, e2] X.env = (false, eval e X.env) :: starEach [e2] X.env := by rfl) (hpl : (backTo pos (starEach [e2] X.env)).any (·.1) = false := by rfl) :
    IV X fr (.Tuple elts kk tpos) (.Call (.Name "zip" p) [e, e2] [] pos) (zipI ρs) := by
  refine ⟨fun pins s σ H P I ⟨env, F, g, r, hgt⟩ => (pi_zipA hg hm ha hs hpl).run pins s σ H P I (gotLI r hgt fun ds g1 H1 F1 vs ho ex er q hq => ?_)⟩
  obtain ⟨ys, ey, hq⟩ := ofOI_got hq
  split at ey
  · rename_i xs zs
    cases ey
    obtain ⟨v, r2, rfl, h1, h2⟩ := q.uncons
    obtain ⟨v2, r3, rfl, h3, h4⟩ := h2.uncons
    unfold Rs at h4
    subst h4
    obtain ⟨a, us, rfl, f1, ha1, q1⟩ := r_lst h1
    obtain ⟨b, ws, rfl, f2, hb1, q2⟩ := r_lst h3
    refine ⟨a, b, us, ws, rfl, .inl ⟨SqL.of ha1, SqL.of hb1, hq _ H1 F1 (Ext.refl _ _ _) er.bag (wk_pairs (ds := zipD xs zs) (walk_zip (by rw [zipD_length, q1.length, q2.length])) (fun H2 k => ⟨SqL.of (k.reg a _ f1 ha1), SqL.of (k.reg b _ f2 hb1)⟩) fun i x y hi e1 e2 => ?_)⟩⟩
    obtain ⟨d, ed, rd⟩ := q1.getV e1
    obtain ⟨d2, ed2, rd2⟩ := q2.getV e2
    exact ⟨d, d2, zipD_get _ _ _ _ _ ed ed2, rd, rd2⟩
  · rename_i xs zs
    cases ey
    obtain ⟨v, r2, rfl, h1, h2⟩ := q.uncons
    obtain ⟨v2, r3, rfl, h3, h4⟩ := h2.uncons
    unfold Rs at h4
    subst h4
    obtain ⟨a, us, rfl, ha1, q1⟩ := r_tup h1
    obtain ⟨b, ws, rfl, hb1, q2⟩ := r_tup h3
    refine ⟨a, b, us, ws, rfl, .inr ⟨SqT.of ha1, SqT.of hb1, hq _ H1 F1 (Ext.refl _ _ _) er.bag (wk_pairs (ds := zipD xs zs) (walk_zipT (by rw [zipD_length, q1.length, q2.length])) (fun H2 k => ⟨SqT.of (k.tup a _ ha1), SqT.of (k.tup b _ hb1)⟩) fun i x y hi e1 e2 => ?_)⟩⟩
    obtain ⟨d, ed, rd⟩ := q1.getV e1
    obtain ⟨d2, ed2, rd2⟩ := q2.getV e2
    exact ⟨d, d2, zipD_get _ _ _ _ _ ed ed2, rd, rd2⟩
  · cases ey

/-! ### targets -/
/-- which slots get what -/
abbrev BX := D → Option (List (Nat × D))
def setsE (env : Slots) (l : List (Nat × D)) : Slots := l.foldl (fun e p => e.set p.1 (some p.2)) env
def setsV (σ : St) (l : List (Nat × V)) : St := l.foldl (fun e p => e.set p.1 (some p.2)) σ
abbrev Fits (H : Hp) (F : Reg) (β : Bx) : List (Nat × D) → List (Nat × V) → Prop := Paired fun p q => p.1 = q.1 ∧ R H F β p.2 q.2
/-- the slots outside vs are as they were -/
def SetIn (vs : List Nat) (σ σ' : St) : Prop := σ'.length = σ.length ∧ ∀ j, j ∉ vs → σ'[j]? = σ[j]?
theorem SetIn.refl (vs : List Nat) (σ : St) : SetIn vs σ σ := ⟨rfl, fun _ _ => rfl⟩
theorem SetIn.trans {vs : List Nat} {σ σ1 σ2 : St} (a : SetIn vs σ σ1) (b : SetIn vs σ1 σ2) : SetIn vs σ σ2 := ⟨b.1.trans a.1, fun j h => (b.2 j h).trans (a.2 j h)⟩
theorem wipe_get {σ : St} : ∀ (vs : List Nat) (j : Nat), (wipe σ vs)[j]? = if j ∈ vs ∧ j < σ.length then some none else σ[j]?
  | [], j => by simp [wipe]
  | v :: vs, j => by
    unfold wipe
    have ih := wipe_get (σ := σ) vs j
    by_cases hv : v = j
    · subst hv
      by_cases hl : v < σ.length
      · rw [List.getElem?_set_self (by rw [wipe_length]; exact hl), if_pos ⟨List.mem_cons_self, hl⟩]
      · rw [List.getElem?_eq_none (by simpa [wipe_length] using hl), if_neg (fun z => hl z.2), List.getElem?_eq_none (by simpa using hl)]
    · rw [List.getElem?_set_ne hv, ih]
      by_cases hm : j ∈ vs ∧ j < σ.length
      · rw [if_pos hm, if_pos ⟨List.mem_cons_of_mem _ hm.1, hm.2⟩]
      · rw [if_neg hm, if_neg (fun z => hm ⟨(List.mem_cons.mp z.1).resolve_left (fun e => hv e.symm), z.2⟩)]
theorem SetIn.wipe {vs : List Nat} {σ σ' : St} (h : SetIn vs σ σ') : L2.wipe σ' vs = L2.wipe σ vs := by
  apply List.ext_getElem?
  intro j
  rw [wipe_get, wipe_get, h.1]
  by_cases hm : j ∈ vs ∧ j < σ.length
  · rw [if_pos hm, if_pos hm]
  · rw [if_neg hm, if_neg hm]
    by_cases hj : j ∈ vs
    · have hl : ¬ j < σ.length := fun z => hm ⟨hj, z⟩
      rw [List.getElem?_eq_none (by rw [h.1]; exact Nat.le_of_not_lt hl), List.getElem?_eq_none (Nat.le_of_not_lt hl)]
    · exact h.2 j hj
theorem SetIn.ofWipe (vs : List Nat) (σ : St) : SetIn vs σ (L2.wipe σ vs) := ⟨wipe_length σ vs, fun j hj => by rw [wipe_get, if_neg (fun z => hj z.1)]⟩
def gV (fr : Fr) (bd : BX) : TG := fun v σ H Q => ∃ F d l, R H F fr.β d v ∧ bd d = some l ∧ ∀ lv, Fits H F fr.β l lv → Q (setsV σ lv) H
def BV (X : Cx) (fr : Fr) (tg : Expr) (bd : BX) : Prop := PG X tg (gV fr bd)
def nameB (i : Nat) : BX := fun d => some [(i, d)]
theorem ER.set {fr : Fr} {F : Reg} {env : Slots} {σ : St} {H : Hp} {g : Bag} (r : ER fr F env σ H g) {d : D} {v : V} (q : R H F fr.β d v) (i : Nat) : ER fr F (env.set i (some d)) (σ.set i (some v)) H g := by
  refine ⟨by simpa using r.len, fun j e h => ?_, r.bag⟩
  by_cases hj : j = i
  · subst hj
    have hl : j < env.length := by
      have := (List.getElem?_eq_some_iff.mp h).1
      simpa using this
    rw [List.getElem?_set_self hl] at h
    cases h
    exact ⟨v, by rw [List.getElem?_set_self (by rw [← r.len]; exact hl)], q⟩
  · rw [List.getElem?_set_ne (Ne.symm hj)] at h
    obtain ⟨u, e2, q2⟩ := r.val j e h
    exact ⟨u, by rw [List.getElem?_set_ne (Ne.symm hj)]; exact e2, q2⟩
theorem ER.sets {fr : Fr} {F : Reg} {H : Hp} {g : Bag} : ∀ {l : List (Nat × D)} {lv : List (Nat × V)} {env : Slots} {σ : St}, ER fr F env σ H g → Fits H F fr.β l lv → ER fr F (setsE env l) (setsV σ lv) H g
  | _, _, _, _, r, .nil => r
  | (i, d) :: l, (j, v) :: lv, env, σ, r, .cons h t => by
    have e : i = j := h.1
    subst e
    show ER fr F (setsE (env.set i (some d)) l) (setsV (σ.set i (some v)) lv) H g
    exact ER.sets (env := env.set i (some d)) (σ := σ.set i (some v)) (ER.set r h.2 i) t
theorem sets_in {vs : List Nat} {H : Hp} {F : Reg} {β : Bx} : ∀ {l : List (Nat × D)} {lv : List (Nat × V)} {σ : St}, (∀ p ∈ l, p.1 ∈ vs) → Fits H F β l lv → SetIn vs σ (setsV σ lv)
  | _, _, σ, _, .nil => SetIn.refl vs σ
  | (i, d) :: l, (j, v) :: lv, σ, hi, .cons h t => by
    have e : i = j := h.1
    subst e
    have hm : i ∈ vs := hi (i, d) List.mem_cons_self
    exact SetIn.trans (σ1 := σ.set i (some v)) ⟨by simp, fun j hj => List.getElem?_set_ne (fun z => hj (by rw [← z]; exact hm))⟩ (sets_in (fun p hp => hi p (List.mem_cons_of_mem _ hp)) t)
theorem bv_name {i : Nat} (h : PG X tg (gName i)) : BV X fr tg (nameB i) := by
  refine ⟨fun pins s σ H v u Q I rv ⟨F, d, l, q, eb, k⟩ => h.run pins s σ H v u Q I rv ?_⟩
  cases eb
  exact k [(i, v)] (.cons ⟨rfl, q⟩ .nil)
/-- several targets -/
abbrev BXs := List D → Option (List (Nat × D))
def gVs (fr : Fr) (bd : BXs) : TGs := fun v σ H Q => ∃ F d l, Rs H F fr.β d v ∧ bd d = some l ∧ ∀ lv, Fits H F fr.β l lv → Q (setsV σ lv) H
def BVs (X : Cx) (fr : Fr) (tgs : List Expr) (bd : BXs) : Prop := PGs X tgs (gVs fr bd)
def nilB : BXs := fun ds => match ds with
  | [] => some []
  | _ => none
def consB (b : BX) (bs : BXs) : BXs := fun ds => match ds with
  | d :: r => (b d).bind fun l => (bs r).map fun m => l ++ m
  | [] => none
def tupB (n : Nat) (bs : BXs) : BX := fun d => match d with
  | .tup xs => if xs.length = n then bs xs else none
  | _ => none
theorem bvs_nil : BVs X fr [] nilB := by
  refine ⟨fun pins s σ H v u Q I rv ⟨F, d, l, q, eb, k⟩ => pgs_nil.run pins s σ H v u Q I rv ?_⟩
  cases d with
  | nil =>
    cases eb
    unfold Rs at q
    exact ⟨q, k [] .nil⟩
  | cons _ _ => cases eb
theorem fits_append {H : Hp} {F : Reg} {β : Bx} : ∀ {l m : List (Nat × D)} {lv mv : List (Nat × V)}, Fits H F β l lv → Fits H F β m mv → Fits H F β (l ++ m) (lv ++ mv)
  | _, _, _, _, .nil, h => h
  | _, _, _, _, .cons h t, h2 => .cons h (fits_append t h2)
theorem bvs_cons {b : BX} {bs : BXs} (h : BV X fr e b) (h2 : BVs X fr es bs)
    (hs : (assignEach (e :: es) X.env).map (·.2) = assign e X.env :: (assignEach es X.env).map (·.2) := by rfl) : BVs X fr (e :: es) (consB b bs) := by
  refine ⟨fun pins s σ H v u Q I rv ⟨F, d, l, q, eb, k⟩ => (pgs_cons h h2 hs).run pins s σ H v u Q I rv ?_⟩
  cases d with
  | nil => cases eb
  | cons d ds =>
    obtain ⟨v1, vr, rfl, h1, h3⟩ := q.uncons
    have eb : (b d).bind (fun l => (bs ds).map fun m => l ++ m) = some l := eb
    cases e1 : b d with
    | none => rw [e1] at eb; cases eb
    | some l1 =>
      rw [e1] at eb
      cases e2 : bs ds with
      | none => rw [Option.bind_some, e2] at eb; cases eb
      | some l2 =>
        rw [Option.bind_some, e2] at eb
        have e3 : l1 ++ l2 = l := Option.some.inj eb
        subst e3
        refine ⟨v1, vr, rfl, F, d, l1, h1, e1, fun lv f1 => ⟨F, ds, l2, h3, e2, fun mv f2 => ?_⟩⟩
        have := k (lv ++ mv) (fits_append f1 f2)
        unfold setsV at this ⊢
        rwa [List.foldl_append] at this
theorem bv_tup {k : Nat} {n : Nat} {bs : BXs} (hc : X.calm = true) (h : BVs X fr es bs) (hn : (assignEach es X.env).length = n := by rfl) (hst : (assignEach es X.env).findIdx? (·.1) = none := by rfl) : BV X fr (.Tuple es k pos) (tupB n bs) := by
  refine ⟨fun pins s σ H v u Q I rv ⟨F, d, l, q, eb, k⟩ => (pg_tup hc h hn hst).run pins s σ H v u Q I rv ?_⟩
  cases d with
  | tup xs =>
    obtain ⟨a, us, rfl, h1, q1⟩ := r_tup q
    unfold tupB at eb
    dsimp only at eb
    split at eb
    · rename_i hl
      exact ⟨a, us, rfl, SqT.of h1, by rw [← q1.length]; exact hl, F, xs, l, q1, eb, k⟩
    · cases eb
  | _ => cases eb

/-- the slots of a target -/
def Sub (vs : List Nat) (bd : BX) : Prop := ∀ d l, bd d = some l → ∀ p ∈ l, p.1 ∈ vs
def Subs (vs : List Nat) (bd : BXs) : Prop := ∀ d l, bd d = some l → ∀ p ∈ l, p.1 ∈ vs
theorem sub_name {vs : List Nat} {i : Nat} (h : i ∈ vs) : Sub vs (nameB i) := fun d l e p hp => by
  cases e
  rw [List.mem_singleton.mp hp]
  exact h
theorem subs_nil {vs : List Nat} : Subs vs nilB := fun d l e p hp => by
  cases d with
  | nil => cases e; cases hp
  | cons _ _ => cases e
theorem subs_cons {vs : List Nat} {b : BX} {bs : BXs} (h : Sub vs b) (h2 : Subs vs bs) : Subs vs (consB b bs) := fun d l e p hp => by
  cases d with
  | nil => cases e
  | cons d ds =>
    have e : (b d).bind (fun l => (bs ds).map fun m => l ++ m) = some l := e
    cases e1 : b d with
    | none => rw [e1] at e; cases e
    | some l1 =>
      rw [e1] at e
      cases e2 : bs ds with
      | none => rw [Option.bind_some, e2] at e; cases e
      | some l2 =>
        rw [Option.bind_some, e2] at e
        have e3 : l1 ++ l2 = l := Option.some.inj e
        subst e3
        exact (List.mem_append.mp hp).elim (h d l1 e1 p) (h2 ds l2 e2 p)
theorem sub_tup {vs : List Nat} {n : Nat} {bs : BXs} (h : Subs vs bs) : Sub vs (tupB n bs) := fun d l e p hp => by
  cases d with
  | tup xs =>
    unfold tupB at e
    dsimp only at e
    split at e
    · exact h xs l e p hp
    · cases e
  | _ => cases e
/-! ### new things -/
def New (β : Bx) (H : Hp) (F' : Reg) (H' : Hp) (d : D) (v : V) : Prop := match d with
  | .lst xs => ∃ a vs, v = .ref a ∧ H a = none ∧ ¬ F' a ∧ some a ≠ β.ad ∧ H' a = some (.lst vs) ∧ Rs H' F' β xs vs
  | .dK ks xs => ∃ a kv, v = .ref a ∧ H a = none ∧ ¬ F' a ∧ some a ≠ β.ad ∧ H' a = some (.dK kv) ∧ ks = kv.map (·.1) ∧ Rs H' F' β xs (kv.map (·.2))
  | .dT ks xs => ∃ a kv, v = .ref a ∧ H a = none ∧ ¬ F' a ∧ some a ≠ β.ad ∧ H' a = some (.dT kv) ∧ ks = kv.map (·.1) ∧ Rs H' F' β xs (kv.map (·.2))
  | _ => False
theorem New.mono {β : Bx} {H H2 H' : Hp} {F' : Reg} {d : D} {v : V} (h : New β H2 F' H' d v) (k : ∀ a, H2 a = none → H a = none) : New β H F' H' d v := by
  cases d with
  | lst xs => obtain ⟨a, vs, e, n, r⟩ := h; exact ⟨a, vs, e, k a n, r⟩
  | dK ks xs => obtain ⟨a, vs, e, n, r⟩ := h; exact ⟨a, vs, e, k a n, r⟩
  | dT ks xs => obtain ⟨a, vs, e, n, r⟩ := h; exact ⟨a, vs, e, k a n, r⟩
  | _ => exact h
/-- what is held on to besides -/
theorem putReg {β : Bx} {F F' : Reg} {H H' : Hp} {g : Bag} {a : Addr} {o : HO} (e : Ext β F H F' H') (b : BagOk β F' H' g) (n : H a = none) (nf : ¬ F' a) (nb : some a ≠ β.ad) (h : H' a = some o) : Ext β F H (F'.or fun x => x = a) H' ∧ BagOk β (F'.or fun x => x = a) H' g := by
  refine ⟨⟨e.mono.trans (.or _ _), fun x f => f.elim (e.newf x) fun q => .inr (by rw [q]; exact n), e.newc, e.keep, e.there⟩, ⟨fun x f => (Reg.in_or.mp f).elim (b.live x) fun q z => ?_, fun x q => ⟨fun f => (Reg.in_or.mp f).elim (b.at_ x q).1 fun z => nb (by rw [← z]; exact q.symm), (b.at_ x q).2⟩, b.len, b.nd, fun x m f => f.elim (b.nf x m) fun z => nf (by rw [← z]; exact .inr m), fun n x c m q => ?_, b.fl⟩⟩
  · rw [q, h] at z
    cases z
  · exact (b.cell n x c m q).mono (fun _ _ h => h) (fun y f => ⟨.inl f, fun _ h => h⟩) (fun _ _ h => h) fun _ h => h
theorem New.r {β : Bx} {F F' : Reg} {H H' : Hp} {g : Bag} {d : D} {v : V} (h : New β H F' H' d v) (e : Ext β F H F' H') (b : BagOk β F' H' g) : ∃ F2, Ext β F H F2 H' ∧ BagOk β F2 H' g ∧ R H' F2 β d v := by
  cases d with
  | lst xs =>
    obtain ⟨a, vs, rfl, n, f, nb, h1, r⟩ := h
    obtain ⟨e2, b2⟩ := putReg e b n f nb h1
    refine ⟨_, e2, b2, ?_⟩
    unfold R
    exact ⟨a, vs, rfl, .inr rfl, h1, r.kp (Kp.refl F' H') (.or _ _)⟩
  | dK ks xs =>
    obtain ⟨a, kv, rfl, n, f, nb, h1, ek, r⟩ := h
    obtain ⟨e2, b2⟩ := putReg e b n f nb h1
    refine ⟨_, e2, b2, ?_⟩
    unfold R
    exact ⟨a, kv, rfl, .inr rfl, .inl h1, ek, r.kp (Kp.refl F' H') (.or _ _)⟩
  | dT ks xs =>
    obtain ⟨a, kv, rfl, n, f, nb, h1, ek, r⟩ := h
    obtain ⟨e2, b2⟩ := putReg e b n f nb h1
    refine ⟨_, e2, b2, ?_⟩
    unfold R
    exact ⟨a, kv, rfl, .inr rfl, .inl h1, ek, r.kp (Kp.refl F' H') (.or _ _)⟩
  | _ => exact h.elim
def GotN (fr : Fr) (F : Reg) (σ : St) (H : Hp) (Q : VK) : Out D → Prop
  | .bad => False
  | .ok d g' => ∀ v H' F', Ext fr.β F H F' H' → BagOk fr.β F' H' g' → New fr.β H F' H' d v → Q v H'
  | .exn c p g' => ∀ H' F' cls dd, Ext fr.β F H F' H' → BagOk fr.β F' H' g' → ExcAt fr F' H' c p cls dd → fr.W cls dd σ H'
theorem GotN.of {F : Reg} {σ : St} {H : Hp} {Q : VK} {o : Out D} (h : Got fr F σ H Q o) : GotN fr F σ H Q o := by
  cases o with
  | bad => exact h
  | exn c p g => exact h
  | ok d g =>
    intro v H' F' e b n
    obtain ⟨F2, e2, b2, r⟩ := n.r e b
    exact h v H' F2 e2 b2 r
theorem GotN.later {F F1 : Reg} {σ : St} {H H1 : Hp} {Q : VK} {o : Out D} (h : GotN fr F σ H Q o) (e : Ext fr.β F H F1 H1) : GotN fr F1 σ H1 Q o := by
  cases o with
  | bad => exact h
  | exn c p g => exact fun H' F' cls dd e2 b2 => h H' F' cls dd (e.trans e2) b2
  | ok d g => exact fun v H' F' e2 b2 n => h v H' F' (e.trans e2) b2 (n.mono e.there)
theorem gotN_bnd {α : Type} {m : M α} {f : α → M D} {F : Reg} {σ : St} {H : Hp} {Q : VK} {g : Bag} (h : GotN fr F σ H Q (M.bnd m f g)) : (∃ a g', m g = .ok a g' ∧ GotN fr F σ H Q (f a g')) ∨ ∃ c p g', m g = .exn c p g' ∧ GotN fr F σ H Q (.exn c p g') := by
  unfold M.bnd at h
  cases q : m g with
  | bad => rw [q] at h; exact h.elim
  | ok a g' => rw [q] at h; exact .inl ⟨a, g', rfl, h⟩
  | exn c p g' => rw [q] at h; exact .inr ⟨c, p, g', rfl, h⟩
/-! ### list comprehensions -/
def wipeE (env : Slots) : List Nat → Slots
  | [] => env
  | v :: vs => (wipeE env vs).set v none
theorem wipeE_length (env : Slots) : ∀ vs : List Nat, (wipeE env vs).length = env.length
  | [] => rfl
  | v :: vs => by unfold wipeE; rw [List.length_set, wipeE_length env vs]
theorem wipeE_some {env : Slots} {i : Nat} {x : D} : ∀ {vs : List Nat}, (wipeE env vs)[i]? = some (some x) → env[i]? = some (some x) ∧ i ∉ vs
  | [], h => ⟨h, by simp⟩
  | v :: vs, h => by
    unfold wipeE at h
    by_cases hi : v = i
    · subst hi
      by_cases hv : v < (wipeE env vs).length
      · rw [List.getElem?_set_self hv] at h; cases h
      · rw [List.getElem?_eq_none (by simpa using hv)] at h; cases h
    · rw [List.getElem?_set_ne hi] at h
      obtain ⟨h1, h2⟩ := wipeE_some h
      exact ⟨h1, by simp only [List.mem_cons, not_or]; exact ⟨fun e => hi e.symm, h2⟩⟩
theorem ER.wipe {F : Reg} {env : Slots} {σ : St} {H : Hp} {g : Bag} (r : ER fr F env σ H g) (vs : List Nat) : ER fr F (wipeE env vs) (L2.wipe σ vs) H g :=
  ⟨by rw [wipeE_length, wipe_length]; exact r.len, fun i d h => by
    obtain ⟨h1, h2⟩ := wipeE_some h
    obtain ⟨v, e, q⟩ := r.val i d h1
    exact ⟨v, by rw [wipe_get, if_neg (fun z => h2 z.1)]; exact e, q⟩, r.bag⟩
/-- the turns -/
def lcGo (env : Slots) (bd : BX) (τ : TX) (ρ : EX) : List D → M (List D)
  | [] => M.ret []
  | d :: ds => match bd d with
    | none => M.bad
    | some l => M.bnd (noX (τ (setsE env l))) fun b => if b then M.bnd (noX (ρ (setsE env l))) fun y => M.bnd (lcGo env bd τ ρ ds) fun ys => M.ret (y :: ys) else lcGo env bd τ ρ ds
def lcE (ι : IX) (bd : BX) (τ : TX) (ρ : EX) (vs : List Nat) : EX := fun env => M.bnd (ι env) fun ds => if ds.length ≤ line then M.bnd (lcGo (wipeE env vs) bd τ ρ ds) fun ys => M.ret (.lst ys) else M.bad
theorem noX_noexn {α : Type} {m : M α} {g : Bag} : ∀ c p g', noX m g ≠ .exn c p g' := fun c p g' h => by
  unfold noX at h
  cases q : m g with
  | bad => rw [q] at h; cases h
  | ok b g2 => rw [q] at h; cases h
  | exn c p g2 => rw [q] at h; cases h
theorem bnd_noexn {α γ : Type} {m : M α} {f : α → M γ} {g : Bag} (h1 : ∀ c p g', m g ≠ .exn c p g') (h2 : ∀ a g1 c p g', f a g1 ≠ .exn c p g') : ∀ c p g', M.bnd m f g ≠ .exn c p g' := fun c p g' h => by
  unfold M.bnd at h
  cases q : m g with
  | bad => rw [q] at h; cases h
  | ok b g2 => rw [q] at h; exact h2 b g2 c p g' h
  | exn c p g2 => exact h1 c p g2 q
theorem lcGo_noexn (env : Slots) (bd : BX) (τ : TX) (ρ : EX) : ∀ (ds : List D) (g : Bag) (c : Nat) (p : D) (g' : Bag), lcGo env bd τ ρ ds g ≠ .exn c p g'
  | [], g, c, p, g' => fun h => by cases h
  | d :: ds, g, c, p, g' => fun h => by
    unfold lcGo at h
    cases hb : bd d with
    | none => rw [hb] at h; cases h
    | some l =>
      rw [hb] at h
      refine bnd_noexn noX_noexn (fun b g1 => ?_) c p g' h
      cases b with
      | false => exact lcGo_noexn env bd τ ρ ds g1
      | true =>
        rw [if_pos rfl]
        exact bnd_noexn noX_noexn (fun y g2 => bnd_noexn (lcGo_noexn env bd τ ρ ds g2) fun ys g3 c p g' h => by cases h)
/-- an outcome, its list behind acc -/
def preO (acc : List D) : Out (List D) → Out (List D)
  | .ok ys g => .ok (acc ++ ys) g
  | o => o
def yesT : TX := fun _ => M.ret true
def TVs (X : Cx) (fr : Fr) (ifs : List Expr) (τ : TX) : Prop := PTs X ifs (tT fr τ)
theorem tvs_nil : TVs X fr [] yesT := ⟨fun pins s σ H Q I ⟨env, F, g, r, hg⟩ => pts_nil.run pins s σ H Q I (hg H F (Ext.refl _ _ _) r.bag)⟩
theorem tvs_one {c : Expr} {τ : TX} (h : TV X fr c τ) : TVs X fr [c] τ := pts_one h
/-- what a turn of a comprehension knows -/
structure LcAt (fr : Fr) (env : Slots) (σ : St) (bd : BX) (τ : TX) (ρ : EX) (ds : List D) (F0 : Reg) (H0 : Hp) (Dd : Addr) (tot : Out (List D)) (i : Nat) (H : Hp) : Prop where
  ex : ∃ F1 g1 acc accV, H Dd = some (.lst accV) ∧ ¬ F1 Dd ∧ Rs H F1 fr.β acc accV ∧ ER fr F1 env σ H g1 ∧ Ext fr.β F0 H0 F1 H ∧ acc.length ≤ i ∧ i ≤ ds.length ∧ preO acc (lcGo env bd τ ρ (ds.drop i) g1) = tot
theorem noX_ok {α : Type} {m : M α} {g g' : Bag} {a : α} (h : noX m g = .ok a g') : m g = .ok a g' := by
  unfold noX at h
  cases q : m g with
  | bad => rw [q] at h; cases h
  | ok b g2 => rw [q] at h; exact h
  | exn c p g2 => rw [q] at h; cases h
theorem bnd_ok {α γ : Type} {m : M α} {f : α → M γ} {g : Bag} (h : M.bnd m f g ≠ .bad) (hx : ∀ c p g', m g ≠ .exn c p g') : ∃ a g', m g = .ok a g' ∧ M.bnd m f g = f a g' := by
  unfold M.bnd at h ⊢
  cases q : m g with
  | bad => rw [q] at h; exact absurd rfl h
  | ok b g2 => exact ⟨b, g2, rfl, rfl⟩
  | exn c p g2 => exact absurd q (hx c p g2)
theorem got_bnd {α : Type} {m : M α} {f : α → M D} {F : Reg} {σ : St} {H : Hp} {Q : VK} {g : Bag} (h : Got fr F σ H Q (M.bnd m f g)) : (∃ a g', m g = .ok a g' ∧ Got fr F σ H Q (f a g')) ∨ ∃ c p g', m g = .exn c p g' ∧ Got fr F σ H Q (.exn c p g') := by
  unfold M.bnd at h
  cases q : m g with
  | bad => rw [q] at h; exact h.elim
  | ok a g' => rw [q] at h; exact .inl ⟨a, g', rfl, h⟩
  | exn c p g' => rw [q] at h; exact .inr ⟨c, p, g', rfl, h⟩
theorem preO_bad {acc : List D} {o : Out (List D)} {ys : List D} {g : Bag} (h : preO acc o = .ok ys g) : o ≠ .bad := fun z => by
  rw [z] at h
  cases h
/-- a thing that is neither frozen nor a cell nor the bag is written -/
theorem BagOk.beside {β : Bx} {F : Reg} {H : Hp} {g : Bag} (b : BagOk β F H g) {Dd : Addr} {u o : HO} (hn : ¬ F Dd) (hl : H Dd = some u) (nt : ∀ xs, u ≠ .tup xs) (nb : some Dd ≠ β.ad) : Kp F H (upd H Dd o) ∧ BagOk β F (upd H Dd o) g := by
  have k : Kp F H (upd H Dd o) := ⟨fun a xs h => by
    rw [upd_ne (fun z => by rw [z, hl] at h; exact nt xs (Option.some.inj h))]; exact h, fun a u f h => by rw [upd_ne (fun z => hn (by rw [← z]; exact .inl f))]; exact h⟩
  refine ⟨k, fun a f z => ?_, fun x e => ⟨(b.at_ x e).1, ?_⟩, b.len, b.nd, b.nf, fun n a c m q => (b.cell n a c m q).mono k.tup (fun a f => ⟨f, fun u h => k.reg a u f h⟩) (fun _ _ h => h) fun u h => ?_, b.fl⟩
  · rw [upd_ne (fun z => hn (by rw [← z]; exact f))] at z
    exact b.live a f z
  · rw [upd_ne (fun z => nb (by rw [← z]; exact e.symm))]
    exact (b.at_ x e).2
  · rw [upd_ne (fun z => hn (by rw [← z]; exact .inr (List.mem_of_getElem? m)))]
    exact h
theorem ER.putD {F : Reg} {env : Slots} {σ : St} {H : Hp} {g : Bag} (r : ER fr F env σ H g) {Dd : Addr} {l : List V} {o : HO} (hn : ¬ F Dd) (hl : H Dd = some (.lst l)) (nb : some Dd ≠ fr.β.ad) : Kp F H (upd H Dd o) ∧ ER fr F env σ (upd H Dd o) g := by
  obtain ⟨k, b⟩ := r.bag.beside (o := o) hn hl (fun _ z => nomatch z) nb
  refine ⟨k, r.len, fun i d h => ?_, b⟩
  obtain ⟨v, e, q⟩ := r.val i d h
  exact ⟨v, e, q.kp k Reg.le.rfl⟩
/-- what was not there at first is written -/
theorem Ext.over {β : Bx} {F F' : Reg} {H H' : Hp} (e : Ext β F H F' H') {a : Addr} {o : HO} (n : H a = none) : Ext β F H F' (upd H' a o) := ⟨e.mono, e.newf, e.newc, fun x u h nb nc => by
  rw [upd_ne (ne_of_none h n)]
  exact e.keep x u h nb nc, fun x h => by
  by_cases z : x = a
  · rw [z]; exact n
  · rw [upd_ne z] at h; exact e.there x h⟩
/-- the comprehension behind its walk -/
def lcP (g : TG) (tt : TT) (te : TE) (vs : List Nat) (σ : St) (Q : VK) : It → Hp → Prop := fun J H1 => ∀ D, H1 D = none → ∃ W : Nat → Nat → Hp → Prop, (∃ m, W 0 m (upd H1 D (.lst []))) ∧ ∀ i m H, W i m H →
  (J.stop i H ∧ Q (.ref D) H) ∨ (J.go i H ∧ ∃ Nx : Hp → Prop, (∀ H', Nx H' → ∃ m', m' < m ∧ W (i + 1) m' H') ∧ ∀ x H', J.yld i H x H' → g x (L2.wipe σ vs) H' fun σ2 H2 => L2.wipe σ2 vs = L2.wipe σ vs ∧ tt σ2 H2 fun b H3 =>
    if b = true then te σ2 H3 fun y H4 => ∃ acc, H4 D = some (.lst acc) ∧ acc.length < sizeLine ∧ Nx (upd H4 D (.lst (acc ++ [y]))) else Nx H3)
/-- the comprehension's reading, from its parts' outcomes -/
theorem lc_gotI {σ : St} {H : Hp} {Q : VK} {ι : IX} {bd : BX} {τ : TX} {ρ : EX} {vs : List Nat} {env : Slots} {F : Reg} {g : Bag} (r : ER fr F env σ H g) (hvs : ∀ d l, bd d = some l → ∀ p ∈ l, p.1 ∈ vs) (hg : GotN fr F σ H Q (lcE ι bd τ ρ vs env g)) : GotI fr F σ H (lcP (gV fr bd) (tT fr τ) (tE fr ρ) vs σ Q) (ι env g) := by
  rcases gotN_bnd hg with ⟨ds, g0, ho, hg⟩ | ⟨c, p, g', ho, hg⟩
  case inr => rw [ho]; exact hg
  rw [ho]
  by_cases hl : ds.length ≤ line
  case neg => rw [if_neg hl] at hg; exact (show False from hg).elim
  rw [if_pos hl] at hg
  intro J H0 F0 ex0 b0 wk Dd hD
  obtain ⟨G, Y, w, hG, hY⟩ := wk
  have er0 := (r.ext ex0 b0).wipe vs
  have nbD : some Dd ≠ fr.β.ad := fun z => by
    have q := (b0.at_ Dd z.symm).2
    rw [hD] at q
    cases q
  obtain ⟨ys, gf, htot, hQ⟩ : ∃ ys gf, lcGo (wipeE env vs) bd τ ρ ds g0 = .ok ys gf ∧ GotN fr F σ H Q (.ok (.lst ys) gf) := by
    rcases gotN_bnd hg with ⟨ys, gf, hz, hg⟩ | ⟨c, p, g', hz, hg⟩
    · exact ⟨ys, gf, hz, hg⟩
    · exact absurd hz (lcGo_noexn _ _ _ _ _ _ _ _ _)
  refine lc_it w (LcAt fr (wipeE env vs) (L2.wipe σ vs) bd τ ρ ds F0 H0 Dd (.ok ys gf)) ?_ ?_ ?_ ?_
  · -- the start
    refine ⟨F0, g0, [], [], upd_same, fun f => b0.live Dd f hD, .nil, er0.ext (Ext.put hD) (b0.put hD), Ext.put hD, Nat.le_refl _, Nat.zero_le _, ?_⟩
    simp only [List.drop_zero, htot, preO, List.nil_append]
  · -- the walked stands
    rintro i H1 hi ⟨_, _, _, _, _, _, _, _, e01, _⟩
    exact hG H1 (Kp.of b0 e01)
  · -- a turn
    rintro i x H1 H2 hi ⟨F1, g1, acc, accV, hDd, hnD, ra, er, e01, hle, _, hpre⟩ hy
    obtain ⟨d, ed, ex2, hb2, rd⟩ := hY i H1 F1 x H2 hi (Kp.of b0 e01) e01.mono (fun b e => er.bag.mv e) hy
    have hdrop : ds.drop i = d :: ds.drop (i + 1) := by
      have := List.drop_eq_getElem_cons hi
      rw [this]
      congr 1
      exact Option.some.inj ((List.getElem?_eq_getElem hi).symm.trans ed)
    rw [hdrop] at hpre
    unfold lcGo at hpre
    cases hbd : bd d with
    | none =>
      rw [hbd] at hpre
      exact absurd rfl (preO_bad hpre)
    | some l =>
      rw [hbd] at hpre
      dsimp only at hpre
      obtain ⟨b, g2, ht2, e2⟩ := bnd_ok (preO_bad hpre) noX_noexn
      rw [e2] at hpre
      have ht2 := noX_ok ht2
      have b2 : BagOk fr.β F1 H2 g1 := er.bag.still ex2 hb2
      have er2 := er.ext ex2 b2
      refine ⟨F1, d, l, rd, hbd, fun lv fits => ⟨((SetIn.ofWipe vs σ).trans (sets_in (hvs d l hbd) fits)).wipe, setsE (wipeE env vs) l, F1, g1, er2.sets fits, ?_⟩⟩
      have er' := er2.sets fits
      rw [ht2]
      intro H3 F3 ex3 b3
      have hD2 : H2 Dd = some (.lst accV) := ex2.keep Dd _ hDd nbD fun z => hnD (.inr z)
      have hD3 : H3 Dd = some (.lst accV) := ex3.keep Dd _ hD2 nbD fun z => hnD (.inr z)
      have hn3 : ¬ F3 Dd := fun f => (ex3.new Dd f).elim hnD fun z => by rw [hD2] at z; cases z
      have er3 := er2.ext ex3 b3
      have ra3 := (ra.ext er.bag ex2).ext b2 ex3
      have e03 : Ext fr.β F0 H0 F3 H3 := (e01.trans ex2).trans ex3
      cases b with
      | false =>
        refine iteF ⟨F3, g2, acc, accV, hD3, hn3, ra3, er3, e03, Nat.le_succ_of_le hle, hi, hpre⟩
      | true =>
        rw [if_pos rfl] at hpre
        obtain ⟨y, g3, hr, e3⟩ := bnd_ok (preO_bad hpre) noX_noexn
        rw [e3] at hpre
        have hr := noX_ok hr
        refine iteT ⟨setsE (wipeE env vs) l, F3, g2, er'.ext ex3 b3, ?_⟩
        rw [hr]
        intro v H4 F4 ex4 b4 ry
        have hD4 : H4 Dd = some (.lst accV) := ex4.keep Dd _ hD3 nbD fun z => hn3 (.inr z)
        have hn4 : ¬ F4 Dd := fun f => (ex4.new Dd f).elim hn3 fun z => by rw [hD3] at z; cases z
        obtain ⟨kp, er5⟩ := (er3.ext ex4 b4).putD (o := .lst (accV ++ [v])) hn4 hD4 nbD
        refine ⟨accV, hD4, ?_, F4, g3, acc ++ [y], accV ++ [v], upd_same, hn4, ?_, er5, (e03.trans ex4).over hD, ?_, hi, ?_⟩
        · rw [line_eq, ← ra3.length]
          omega
        · exact ((ra3.ext b3 ex4).append (.one ry)).kp kp Reg.le.rfl
        · rw [List.length_append, List.length_singleton]
          omega
        · rw [← hpre]
          unfold M.bnd
          cases hz : lcGo (wipeE env vs) bd τ ρ (ds.drop (i + 1)) g3 with
          | bad => rfl
          | exn c p g' => rfl
          | ok zs gz =>
            show Out.ok (acc ++ [y] ++ zs) gz = Out.ok (acc ++ (y :: zs)) gz
            rw [List.append_assoc]
            rfl
  · -- the end
    rintro H1 ⟨F1, g1, acc, accV, hDd, hnD, ra, er, e01, _, _, hpre⟩
    rw [List.drop_length] at hpre
    unfold lcGo M.ret preO at hpre
    dsimp only at hpre
    rw [List.append_nil] at hpre
    cases hpre
    exact hQ (.ref Dd) H1 F1 (ex0.trans e01) er.bag ⟨Dd, accV, rfl, ex0.there Dd hD, hnD, nbD, hDd, ra⟩
theorem lc_redN {σ : St} {H : Hp} {Q : VK} {ι : IX} {bd : BX} {τ : TX} {ρ : EX} {vs : List Nat} {env : Slots} {F : Reg} {g : Bag} (r : ER fr F env σ H g) (hvs : ∀ d l, bd d = some l → ∀ p ∈ l, p.1 ∈ vs) (hg : GotN fr F σ H Q (lcE ι bd τ ρ vs env g)) : tLc (iV fr ι) (gV fr bd) (tT fr τ) (tE fr ρ) vs σ H Q := ⟨env, F, g, r, lc_gotI r hvs hg⟩
theorem lc_red {σ : St} {H : Hp} {Q : VK} {ι : IX} {bd : BX} {τ : TX} {ρ : EX} {vs : List Nat} {env : Slots} {F : Reg} {g : Bag} (r : ER fr F env σ H g) (hvs : ∀ d l, bd d = some l → ∀ p ∈ l, p.1 ∈ vs) (hg : Got fr F σ H Q (lcE ι bd τ ρ vs env g)) : tLc (iV fr ι) (gV fr bd) (tT fr τ) (tE fr ρ) vs σ H Q := lc_redN r hvs (GotN.of hg)
variable {scope : Scope} {own : List (Str × Nat)} {ifs : List Expr} {elt iter : Expr}
theorem ev_lc {ι : IX} {bd : BX} {τ : TX} {ρ : EX} (hc : X.calm = true) (hN : X.N.Nodup) (hi : IV X fr tg iter ι) (ok : BlkOk X.N X.env.scope scope own)
    (hg : ∀ (s : Shared) (H : Hp) (C : Addr) (cl : List (Str × Addr)) (fp : List Addr), BV (X.blk s H scope (compEnvC scope cl C X.env) fp) fr tg bd) (ht : ∀ (s : Shared) (H : Hp) (C : Addr) (cl : List (Str × Addr)) (fp : List Addr), TVs (X.blk s H scope (compEnvC scope cl C X.env) fp) fr ifs τ)
    (he : ∀ (s : Shared) (H : Hp) (C : Addr) (cl : List (Str × Addr)) (fp : List Addr), EV (X.blk s H scope (compEnvC scope cl C X.env) fp) fr elt ρ) (hvs : ∀ d l, bd d = some l → ∀ p ∈ l, p.1 ∈ own.map (·.2)) (hs : ∀ x, foldedSetIterable iter X.env x = pure x := by intro _; rfl) :
    EV X fr (.ListComp elt [⟨tg, iter, ifs, 0⟩] scope pos) (lcE ι bd τ ρ (own.map (·.2))) :=
  ev_of _ _ _ (pe_lc hc hN hi ok hg ht he hs) fun σ H Q env F g r hg => lc_red r hvs hg
end
end VC

/-! VC6: statements: slots that own their lists (nobody else holds them), the rest frozen. -/
namespace VC
open PySem PySem.Spec L2 RZ
open PyProof.Rows hiding St

/-- a def's frame: what stood at its entry -/
structure Fs where
  fr : Fr
  F0 : Reg
  H0 : Hp
def isC : D → Bool
  | .lst _ => true
  | .dK _ _ => true
  | .dT _ _ => true
  | _ => false
/-- the slot alone holds it -/
def Own (fs : Fs) (H : Hp) (F : Reg) (d : D) (v : V) : Prop := match d with
  | .lst xs => ∃ a vs, v = .ref a ∧ ¬ F a ∧ fs.H0 a = none ∧ H a = some (.lst vs) ∧ Rs H F fs.fr.β xs vs
  | .dK ks xs => ∃ a kv, v = .ref a ∧ ¬ F a ∧ fs.H0 a = none ∧ H a = some (.dK kv) ∧ ks = kv.map (·.1) ∧ Rs H F fs.fr.β xs (kv.map (·.2))
  | .dT ks xs => ∃ a kv, v = .ref a ∧ ¬ F a ∧ fs.H0 a = none ∧ H a = some (.dT kv) ∧ ks = kv.map (·.1) ∧ Rs H F fs.fr.β xs (kv.map (·.2))
  | d => R H F fs.fr.β d v
structure SR (fs : Fs) (O : List Nat) (F : Reg) (env : Slots) (σ : St) (H : Hp) (g : Bag) : Prop where
  len : env.length = σ.length
  val : ∀ (i : Nat) (d : D), env[i]? = some (some d) → ∃ v, σ[i]? = some (some v) ∧ (i ∉ O → R H F fs.fr.β d v) ∧ (i ∈ O → Own fs H F d v)
  sep : ∀ (i j : Nat) (d e : D) (a : Addr), i ∈ O → j ∈ O → i ≠ j → env[i]? = some (some d) → env[j]? = some (some e) → isC d = true → isC e = true → σ[i]? = some (some (.ref a)) → σ[j]? = some (some (.ref a)) → False
  bag : BagOk fs.fr.β F H g
  ext : Ext fs.fr.β fs.F0 fs.H0 F H
  nb : ∀ b, fs.fr.β.ad = some b → fs.H0 b ≠ none
section
variable {fs : Fs} {O : List Nat} {F F' : Reg} {env : Slots} {σ : St} {H H' : Hp} {g g' : Bag}
/-- an owned thing: its address -/
theorem Own.at_ {d : D} {v : V} (h : Own fs H F d v) (c : isC d = true) : ∃ a o, v = .ref a ∧ ¬ F a ∧ fs.H0 a = none ∧ H a = some o ∧ (∀ xs, o ≠ .tup xs) := by
  cases d with
  | lst xs => obtain ⟨a, vs, e, f, n, h, _⟩ := h; exact ⟨a, _, e, f, n, h, fun _ z => nomatch z⟩
  | dK ks xs => obtain ⟨a, vs, e, f, n, h, _⟩ := h; exact ⟨a, _, e, f, n, h, fun _ z => nomatch z⟩
  | dT ks xs => obtain ⟨a, vs, e, f, n, h, _⟩ := h; exact ⟨a, _, e, f, n, h, fun _ z => nomatch z⟩
  | _ => cases c
theorem Own.plain {d : D} {v : V} (c : isC d = false) : Own fs H F d v ↔ R H F fs.fr.β d v := by
  cases d <;> first | exact Iff.rfl | cases c
/-- held on to by F' -/
theorem Own.frz {d : D} {v : V} (h : Own fs H F d v) (hF : F.le F') (ha : ∀ a, v = .ref a → isC d = true → F'.fz a) : R H F' fs.fr.β d v := by
  cases d with
  | lst xs =>
    obtain ⟨a, vs, e, f, n, h1, r⟩ := h
    unfold R
    exact ⟨a, vs, e, ha a e rfl, h1, r.kp (Kp.refl F H) hF⟩
  | dK ks xs =>
    obtain ⟨a, vs, e, f, n, h1, ek, r⟩ := h
    unfold R
    exact ⟨a, vs, e, ha a e rfl, .inl h1, ek, r.kp (Kp.refl F H) hF⟩
  | dT ks xs =>
    obtain ⟨a, vs, e, f, n, h1, ek, r⟩ := h
    unfold R
    exact ⟨a, vs, e, ha a e rfl, .inl h1, ek, r.kp (Kp.refl F H) hF⟩
  | _ => exact R.kp h (Kp.refl F H) hF
/-- it stays: the heap keeps what is frozen and the thing itself -/
theorem Own.kp {d : D} {v : V} (h : Own fs H F d v) (k : Kp F H H') (hF : F.le F') (ha : ∀ a o, v = .ref a → isC d = true → H a = some o → H' a = some o ∧ ¬ F' a) : Own fs H' F' d v := by
  cases d with
  | lst xs =>
    obtain ⟨a, vs, e, f, n, h1, r⟩ := h
    obtain ⟨h2, f2⟩ := ha a _ e rfl h1
    exact ⟨a, vs, e, f2, n, h2, r.kp k hF⟩
  | dK ks xs =>
    obtain ⟨a, vs, e, f, n, h1, ek, r⟩ := h
    obtain ⟨h2, f2⟩ := ha a _ e rfl h1
    exact ⟨a, vs, e, f2, n, h2, ek, r.kp k hF⟩
  | dT ks xs =>
    obtain ⟨a, vs, e, f, n, h1, ek, r⟩ := h
    obtain ⟨h2, f2⟩ := ha a _ e rfl h1
    exact ⟨a, vs, e, f2, n, h2, ek, r.kp k hF⟩
  | _ => exact R.kp h k hF
theorem SR.neB (r : SR fs O F env σ H g) {a : Addr} (h : fs.H0 a = none) : some a ≠ fs.fr.β.ad := fun z => r.nb a z.symm h
/-- what the slots of O hold -/
def held (O : List Nat) (env : Slots) (σ : St) : Addr → Prop := fun a => ∃ i d, i ∈ O ∧ env[i]? = some (some d) ∧ isC d = true ∧ σ[i]? = some (some (.ref a))
/-- what the slots hold is neither frozen nor a cell, and was not there at the entry -/
theorem SR.held (r : SR fs O F env σ H g) {P : List Nat} (hP : ∀ i, i ∈ P → i ∈ O) {a : Addr} (h : held P env σ a) : ∃ o, H a = some o ∧ fs.H0 a = none ∧ ¬ F a := by
  obtain ⟨i, d, hi, e, c, es⟩ := h
  obtain ⟨v, ev, _, ho⟩ := r.val i d e
  rw [es] at ev
  cases ev
  obtain ⟨b, o, eb, nf, n0, hb, _⟩ := (ho (hP i hi)).at_ c
  cases eb
  exact ⟨o, hb, n0, nf⟩
theorem BagOk.or {β : Bx} (b : BagOk β F H g) {p : Addr → Prop} (h : ∀ a, p a → ¬ F a ∧ H a ≠ none ∧ some a ≠ β.ad) : BagOk β (F.or p) H g where
  live := fun a f => (Reg.in_or.mp f).elim (b.live a) fun q => (h a q).2.1
  at_ := fun x q => ⟨fun f => (Reg.in_or.mp f).elim (b.at_ x q).1 fun z => (h x z).2.2 q.symm, (b.at_ x q).2⟩
  len := b.len
  nd := b.nd
  nf := fun a m f => f.elim (b.nf a m) fun z => (h a z).1 (.inr m)
  cell := fun n a c m q => (b.cell n a c m q).mono (fun _ _ h => h) (fun y f => ⟨.inl f, fun _ h => h⟩) (fun _ _ h => h) fun _ h => h
  fl := b.fl
/-- some slots are frozen -/
theorem SR.freeze (r : SR fs O F env σ H g) {O' : List Nat} (h : ∀ i, i ∈ O' → i ∈ O) : SR fs O' (F.or (VC.held (O.filter (· ∉ O')) env σ)) env σ H g := by
  have hO : ∀ {i : Nat}, i ∈ O.filter (· ∉ O') ↔ i ∈ O ∧ i ∉ O' := fun {i} => by simp
  have own : ∀ {a : Addr}, VC.held (O.filter (· ∉ O')) env σ a → ∃ o, H a = some o ∧ fs.H0 a = none ∧ ¬ F a := fun {a} z => r.held (fun i hi => (hO.mp hi).1) z
  refine ⟨r.len, fun i d e => ?_, fun i j d e a hi hj => r.sep i j d e a (h i hi) (h j hj), r.bag.or fun a z => ?_, ⟨r.ext.mono.trans (.or _ _), fun a f => ?_, r.ext.newc, r.ext.keep, r.ext.there⟩, r.nb⟩
  · obtain ⟨v, ev, h1, h2⟩ := r.val i d e
    refine ⟨v, ev, fun hi => ?_, fun hi => ?_⟩
    · by_cases ho : i ∈ O
      · exact (h2 ho).frz (.or _ _) fun a ea c => .inr ⟨i, d, hO.mpr ⟨ho, hi⟩, e, c, by rw [ev, ea]⟩
      · exact (h1 ho).kp (Kp.refl F H) (.or _ _)
    · refine (h2 (h i hi)).kp (Kp.refl F H) (.or _ _) fun a o ea c ha => ⟨ha, fun f => ?_⟩
      obtain ⟨b, o', eb, nf, _, _, _⟩ := (h2 (h i hi)).at_ c
      rw [ea] at eb
      cases eb
      rcases Reg.in_or.mp f with f | ⟨j, d', hj, e', c', es'⟩
      · exact nf f
      · refine r.sep i j d d' a (h i hi) (hO.mp hj).1 (fun z => (hO.mp hj).2 (by rw [← z]; exact hi)) e e' c c' (by rw [ev, ea]) es'
  · obtain ⟨o, ho, n0, nf⟩ := own z
    exact ⟨nf, by rw [ho]; exact fun z => (by cases z), r.neB n0⟩
  · rcases f with f | f
    · exact r.ext.newf a f
    · obtain ⟨o, _, n0, _⟩ := own f
      exact .inr n0
/-- the slots as an expression sees them: all frozen -/
theorem SR.er (r : SR fs O F env σ H g) : ER fs.fr (F.or fun a => VC.held O env σ a) env σ H g := by
  have q := r.freeze (O' := []) (fun _ z => nomatch z)
  have e : O.filter (· ∉ ([] : List Nat)) = O := by simp
  rw [e] at q
  exact ⟨q.len, fun i d e => let ⟨v, ev, h1, _⟩ := q.val i d e; ⟨v, ev, h1 (fun z => nomatch z)⟩, q.bag⟩
/-- behind an expression, out of the def -/
theorem SR.exit (r : SR fs O F env σ H g) {F2 : Reg} (e : Ext fs.fr.β (F.or fun a => VC.held O env σ a) H F2 H') : Ext fs.fr.β fs.F0 fs.H0 F2 H' where
  mono := (r.ext.mono.trans (.or _ _)).trans e.mono
  newf := fun a f => (e.newf a f).elim (fun z => z.elim (r.ext.newf a) fun z => .inr (r.held (fun _ h => h) z).choose_spec.2.1) fun z => .inr (r.ext.there a z)
  newc := fun a f => (e.newc a f).elim (r.ext.newc a) fun z => .inr (r.ext.there a z)
  keep := fun a o h n m => e.keep a o (r.ext.keep a o h n m) n fun z => (r.ext.newc a z).elim m fun q => by rw [h] at q; cases q
  there := fun a h => r.ext.there a (e.there a h)
/-- behind an expression: nothing of ours has changed -/
theorem SR.back (r : SR fs O F env σ H g) {F2 : Reg} (e : Ext fs.fr.β (F.or fun a => VC.held O env σ a) H F2 H') (b : BagOk fs.fr.β F2 H' g') : SR fs O (F.mix F2) env σ H' g' ∧ Kp F H H' ∧ F.le (F.mix F2) := by
  have kp : Kp F H H' := ⟨fun a xs h => e.keep a _ h (r.bag.notup (.inl h) fun _ z => nomatch z) (r.bag.notupC h), fun a u f h => e.keep a u h (r.bag.ne (.inl f)) (r.bag.nc f)⟩
  have fz : ∀ a, F.fz a → F2.fz a := fun a f => e.mono.fz a (.inl f)
  have le : F.le (F.mix F2) := .mix e.mono.cs
  have ex := r.exit e
  refine ⟨⟨r.len, fun i d ed => ?_, r.sep, b.mix fz, ⟨r.ext.mono.trans le, r.ext.newf, ex.newc, ex.keep, ex.there⟩, r.nb⟩, kp, le⟩
  obtain ⟨v, ev, h1, h2⟩ := r.val i d ed
  refine ⟨v, ev, fun hi => (h1 hi).kp kp le, fun hi => (h2 hi).kp kp le fun a o ea c ha => ?_⟩
  obtain ⟨b', o', eb, nf, n0, _, _⟩ := (h2 hi).at_ c
  rw [ea] at eb
  cases eb
  refine ⟨e.keep a o ha (r.neB n0) fun z => nf (.inr z), fun f => ?_⟩
  rcases f with f | f
  · exact nf (.inl f)
  · rcases e.newc a f with f | f
    · exact nf (.inr f)
    · rw [ha] at f; cases f
/-- the owned slots out of sight -/
def hide (O : List Nat) (env : Slots) : Slots := wipeE env O
theorem SR.erH (r : SR fs O F env σ H g) : ER fs.fr F (hide O env) σ H g :=
  ⟨by unfold hide; rw [wipeE_length]; exact r.len, fun i d h => by
    obtain ⟨h1, h2⟩ := wipeE_some h
    obtain ⟨v, e, q, _⟩ := r.val i d h1
    exact ⟨v, e, q h2⟩, r.bag⟩
theorem SR.backH (r : SR fs O F env σ H g) (e : Ext fs.fr.β F H F' H') (b : BagOk fs.fr.β F' H' g') : SR fs O F' env σ H' g' ∧ Kp F H H' := by
  have kp : Kp F H H' := Kp.of r.bag e
  refine ⟨⟨r.len, fun i d ed => ?_, r.sep, b, r.ext.trans e, r.nb⟩, kp⟩
  obtain ⟨v, ev, h1, h2⟩ := r.val i d ed
  refine ⟨v, ev, fun hi => (h1 hi).kp kp e.mono, fun hi => (h2 hi).kp kp e.mono fun a o ea c ha => ?_⟩
  obtain ⟨b', o', eb, nf, n0, _, _⟩ := (h2 hi).at_ c
  rw [ea] at eb
  cases eb
  exact ⟨e.keep a o ha (r.neB n0) fun z => nf (.inr z), fun f => (e.new a f).elim nf fun z => by rw [ha] at z; cases z⟩
/-- a slot is filled with a frozen value -/
theorem SR.set (r : SR fs O F env σ H g) {d : D} {v : V} (q : R H F fs.fr.β d v) (i : Nat) {O' : List Nat} (hO : ∀ j, j ≠ i → (j ∈ O' ↔ j ∈ O)) (hi : i ∈ O' → isC d = false) : SR fs O' F (env.set i (some d)) (σ.set i (some v)) H g := by
  refine ⟨by simpa using r.len, fun j e h => ?_, fun j k e e' a hj hk ne h h' c c' es es' => ?_, r.bag, r.ext, r.nb⟩
  · by_cases hj : j = i
    · subst hj
      have hl : j < env.length := by
        have := (List.getElem?_eq_some_iff.mp h).1
        simpa using this
      rw [List.getElem?_set_self hl] at h
      cases h
      exact ⟨v, by rw [List.getElem?_set_self (by rw [← r.len]; exact hl)], fun _ => q, fun hm => (Own.plain (hi hm)).mpr q⟩
    · rw [List.getElem?_set_ne (Ne.symm hj)] at h
      obtain ⟨u, e2, q1, q2⟩ := r.val j e h
      exact ⟨u, by rw [List.getElem?_set_ne (Ne.symm hj)]; exact e2, fun hm => q1 fun z => hm ((hO j hj).mpr z), fun hm => q2 ((hO j hj).mp hm)⟩
  · have nej : j ≠ i := fun z => by
      subst z
      have hl : j < env.length := by
        have := (List.getElem?_eq_some_iff.mp h).1
        simpa using this
      rw [List.getElem?_set_self hl] at h
      cases h
      rw [hi hj] at c
      cases c
    have nek : k ≠ i := fun z => by
      subst z
      have hl : k < env.length := by
        have := (List.getElem?_eq_some_iff.mp h').1
        simpa using this
      rw [List.getElem?_set_self hl] at h'
      cases h'
      rw [hi hk] at c'
      cases c'
    rw [List.getElem?_set_ne (Ne.symm nej)] at h es
    rw [List.getElem?_set_ne (Ne.symm nek)] at h' es'
    exact r.sep j k e e' a ((hO j nej).mp hj) ((hO k nek).mp hk) ne h h' c c' es es'
/-- a slot is filled with a thing that nobody else holds -/
theorem SR.setN (r : SR fs O F env σ H g) {d : D} {a : Addr} (q : Own fs H F d (.ref a)) (i : Nat) {O' : List Nat} (hO : ∀ j, j ≠ i → (j ∈ O' ↔ j ∈ O)) (hi : i ∈ O') (hn : ∀ j e, j ∈ O → j ≠ i → env[j]? = some (some e) → isC e = true → σ[j]? = some (some (.ref a)) → False) :
    SR fs O' F (env.set i (some d)) (σ.set i (some (.ref a))) H g := by
  have at_i : ∀ {j : Nat} {e : D} {w : V}, j = i → (env.set i (some d))[j]? = some (some e) → (σ.set i (some (V.ref a)))[j]? = some (some w) → e = d ∧ w = .ref a := fun {j e w} hj h h2 => by
    subst hj
    have hl : j < env.length := by
      have := (List.getElem?_eq_some_iff.mp h).1
      simpa using this
    rw [List.getElem?_set_self hl] at h
    rw [List.getElem?_set_self (by rw [← r.len]; exact hl)] at h2
    cases h
    cases h2
    exact ⟨rfl, rfl⟩
  refine ⟨by simpa using r.len, fun j e h => ?_, fun j k e e' b hj hk ne h h' c c' es es' => ?_, r.bag, r.ext, r.nb⟩
  · by_cases hj : j = i
    · subst hj
      have hl : j < env.length := by
        have := (List.getElem?_eq_some_iff.mp h).1
        simpa using this
      rw [List.getElem?_set_self hl] at h
      cases h
      exact ⟨.ref a, by rw [List.getElem?_set_self (by rw [← r.len]; exact hl)], fun hm => absurd hi hm, fun _ => q⟩
    · rw [List.getElem?_set_ne (Ne.symm hj)] at h
      obtain ⟨u, e2, q1, q2⟩ := r.val j e h
      exact ⟨u, by rw [List.getElem?_set_ne (Ne.symm hj)]; exact e2, fun hm => q1 fun z => hm ((hO j hj).mpr z), fun hm => q2 ((hO j hj).mp hm)⟩
  · by_cases nej : j = i
    · obtain ⟨rfl, eb⟩ := at_i nej h es
      cases eb
      have nek : k ≠ i := fun z => ne (nej.trans z.symm)
      rw [List.getElem?_set_ne (Ne.symm nek)] at h' es'
      exact hn k e' ((hO k nek).mp hk) nek h' c' es'
    · rw [List.getElem?_set_ne (Ne.symm nej)] at h es
      by_cases nek : k = i
      · obtain ⟨rfl, eb⟩ := at_i nek h' es'
        cases eb
        exact hn j e ((hO j nej).mp hj) nej h c es
      · rw [List.getElem?_set_ne (Ne.symm nek)] at h' es'
        exact r.sep j k e e' b ((hO j nej).mp hj) ((hO k nek).mp hk) ne h h' c c' es es'
end

/-! ### flows -/
inductive Fl where
  | nx (env : Slots) | brk (env : Slots) | ct (env : Slots) | rt (d : D)
abbrev SX := Slots → M Fl
def GotS (fs : Fs) (L O' : List Nat) (F : Reg) (H : Hp) (Dn : Ends) : Out Fl → Prop
  | .bad => False
  | .ok (.nx env') g' => ∀ σ' H' F', SR fs O' F' env' σ' H' g' → Kp F H H' → (F.le F') → Dn.nx σ' H'
  | .ok (.brk env') g' => ∀ σ' H' F', SR fs L F' env' σ' H' g' → Kp F H H' → (F.le F') → Dn.bk σ' H'
  | .ok (.ct env') g' => ∀ σ' H' F', SR fs L F' env' σ' H' g' → Kp F H H' → (F.le F') → Dn.ct σ' H'
  | .ok (.rt d) g' => ∀ v H' F', Ext fs.fr.β fs.F0 fs.H0 F' H' → BagOk fs.fr.β F' H' g' → R H' F' fs.fr.β d v → Kp F H H' → Dn.rt v H'
  | .exn c p g' => ∀ σ' H' F' cls dd, Ext fs.fr.β fs.F0 fs.H0 F' H' → BagOk fs.fr.β F' H' g' → ExcAt fs.fr F' H' c p cls dd → fs.fr.W cls dd σ' H'
def tS (fs : Fs) (L O O' : List Nat) (ρ : SX) : TS := fun Dn σ H => ∃ F env g, SR fs O F env σ H g ∧ GotS fs L O' F H Dn (ρ env g)
def SV (X : Cx) (fs : Fs) (L O : List Nat) (st : Stmt) (ρ : SX) (O' : List Nat) : Prop := PS X st (tS fs L O O' ρ)
def SVs (X : Cx) (fs : Fs) (L O : List Nat) (st : List Stmt) (ρ : SX) (O' : List Nat) : Prop := PSs X st (tS fs L O O' ρ)
section
variable {X : Cx} {fs : Fs} {L O O1 O2 O' : List Nat} {st : Stmt} {rest : List Stmt} {ρ ρ' : SX} {pos : Pos} {e : Expr} {σ : St} {H : Hp} {F : Reg} {env : Slots} {g : Bag} {Dn : Ends}
theorem gotS_later {F1 : Reg} {H1 : Hp} {o : Out Fl} (h : GotS fs L O' F H Dn o) (k : Kp F H H1) (hF : F.le F1) : GotS fs L O' F1 H1 Dn o := by
  cases o with
  | bad => exact h
  | exn c p g' => exact h
  | ok fl g' =>
    cases fl with
    | nx env' => exact fun σ' H' F' r k2 hF2 => h σ' H' F' r (k.trans k2 hF) (hF.trans hF2)
    | brk env' => exact fun σ' H' F' r k2 hF2 => h σ' H' F' r (k.trans k2 hF) (hF.trans hF2)
    | ct env' => exact fun σ' H' F' r k2 hF2 => h σ' H' F' r (k.trans k2 hF) (hF.trans hF2)
    | rt d => exact fun v H' F' e b q k2 => h v H' F' e b q (k.trans k2 hF)
/-- two parts -/
theorem gotS_bnd {α : Type} {m : M α} {f : α → M Fl} (h : GotS fs L O' F H Dn (M.bnd m f g)) : (∃ a g', m g = .ok a g' ∧ GotS fs L O' F H Dn (f a g')) ∨ ∃ c p g', m g = .exn c p g' ∧ GotS fs L O' F H Dn (.exn c p g') := by
  unfold M.bnd at h
  cases q : m g with
  | bad => rw [q] at h; exact h.elim
  | ok a g' => rw [q] at h; exact .inl ⟨a, g', rfl, h⟩
  | exn c p g' => rw [q] at h; exact .inr ⟨c, p, g', rfl, h⟩

/-! ### blocks -/
def nxS : SX := fun env => M.ret (.nx env)
def seqS (a b : SX) : SX := fun env => M.bnd (a env) fun fl => match fl with
  | .nx env' => b env'
  | o => M.ret o
theorem svs_nil : SVs X fs L O [] nxS O := ⟨fun pins s σ H D I ⟨F, env, g, r, hg⟩ => pss_nil.run pins s σ H D I (hg σ H F r (Kp.refl F H) Reg.le.rfl)⟩
theorem svs_cons (h1 : SV X fs L O st ρ O1) (h2 : SVs X fs L O1 rest ρ' O2) : SVs X fs L O (st :: rest) (seqS ρ ρ') O2 := by
  refine ⟨fun pins s σ H D I ⟨F, env, g, r, hg⟩ => (pss_cons h1 h2).run pins s σ H D I ⟨F, env, g, r, ?_⟩⟩
  rcases gotS_bnd hg with ⟨fl, g', ho, hg⟩ | ⟨c, p, g', ho, hg⟩
  · rw [ho]
    cases fl with
    | nx env' => exact fun σ' H' F' r' k hF => ⟨F', env', g', r', gotS_later hg k hF⟩
    | brk env' => exact hg
    | ct env' => exact hg
    | rt d => exact hg
  · rw [ho]; exact hg
theorem svs_one (h1 : SV X fs L O st ρ O1) : SVs X fs L O [st] ρ O1 :=
  ⟨fun pins s σ H D I ⟨F, env, g, r, hg⟩ => (pss_one h1).run pins s σ H D I ⟨F, env, g, r, hg⟩⟩
/-- fewer slots own at the start, or are said to own at the end -/
theorem SR.pre (r : SR fs O F env σ H g) (h : ∀ i, i ∈ O1 → i ∈ O) : ∃ F1, SR fs O1 F1 env σ H g ∧ F.le F1 := ⟨_, r.freeze h, .or _ _⟩
theorem tS_pre (h : ∀ i, i ∈ O1 → i ∈ O) (w : tS fs L O O' ρ Dn σ H) : tS fs L O1 O' ρ Dn σ H := by
  obtain ⟨F, env, g, r, hg⟩ := w
  obtain ⟨F1, r1, hF⟩ := r.pre h
  exact ⟨F1, env, g, r1, gotS_later hg (Kp.refl F H) hF⟩
theorem gotS_post (h : ∀ i, i ∈ O2 → i ∈ O1) {o : Out Fl} (w : GotS fs L O2 F H Dn o) : GotS fs L O1 F H Dn o := by
  cases o with
  | bad => exact w
  | exn c p g' => exact w
  | ok fl g' =>
    cases fl with
    | nx env' =>
      intro σ' H' F' r k hF
      obtain ⟨F1, r1, hF1⟩ := r.pre h
      exact w σ' H' F1 r1 k (hF.trans hF1)
    | brk env' => exact w
    | ct env' => exact w
    | rt d => exact w
theorem sv_weak (h : SV X fs L O1 st ρ O2) (h1 : ∀ i, i ∈ O1 → i ∈ O) (h2 : ∀ i, i ∈ O' → i ∈ O2) : SV X fs L O st ρ O' := by
  refine ⟨fun pins s σ H D I w => h.run pins s σ H D I ?_⟩
  obtain ⟨F, env, g, r, hg⟩ := tS_pre h1 w
  exact ⟨F, env, g, r, gotS_post h2 hg⟩
theorem svs_weak {sts : List Stmt} (h : SVs X fs L O1 sts ρ O2) (h1 : ∀ i, i ∈ O1 → i ∈ O) (h2 : ∀ i, i ∈ O' → i ∈ O2) : SVs X fs L O sts ρ O' := by
  refine ⟨fun pins s σ H D I w => h.run pins s σ H D I ?_⟩
  obtain ⟨F, env, g, r, hg⟩ := tS_pre h1 w
  exact ⟨F, env, g, r, gotS_post h2 hg⟩

/-! ### small statements -/
theorem sv_pass : SV X fs L O (.Pass pos) nxS O := ⟨fun pins s σ H D I ⟨F, env, g, r, hg⟩ => ps_pass.run pins s σ H D I (hg σ H F r (Kp.refl F H) Reg.le.rfl)⟩
def brkS : SX := fun env => M.ret (.brk env)
def ctS : SX := fun env => M.ret (.ct env)
theorem sv_break (h : ∀ i, i ∈ L → i ∈ O) : SV X fs L O (.Break pos) brkS O' := ⟨fun pins s σ H D I w => ps_break.run pins s σ H D I (by
  obtain ⟨F, env, g, r, hg⟩ := tS_pre h w
  exact hg σ H F r (Kp.refl F H) Reg.le.rfl)⟩
theorem sv_continue (h : ∀ i, i ∈ L → i ∈ O) : SV X fs L O (.Continue pos) ctS O' := ⟨fun pins s σ H D I w => ps_continue.run pins s σ H D I (by
  obtain ⟨F, env, g, r, hg⟩ := tS_pre h w
  exact hg σ H F r (Kp.refl F H) Reg.le.rfl)⟩
/-- an expression in a statement -/
theorem gotS_exp {ρ : EX} {f : D → M Fl} {Q : VK} (r : SR fs O F env σ H g) (hg : GotS fs L O' F H Dn (M.bnd (ρ env) f g))
    (k : ∀ d g' H' F2 v, SR fs O (F.mix F2) env σ H' g' → Kp F H H' → Ext fs.fr.β (F.or fun a => held O env σ a) H F2 H' → BagOk fs.fr.β F2 H' g' → R H' F2 fs.fr.β d v → GotS fs L O' (F.mix F2) H' Dn (f d g') → Q v H') : Got fs.fr (F.or fun a => held O env σ a) σ H Q (ρ env g) := by
  rcases gotS_bnd hg with ⟨d, g', ho, hg⟩ | ⟨c, p, g', ho, hg⟩
  · rw [ho]
    intro v H' F2 ex b q
    obtain ⟨r', kp, le⟩ := r.back ex b
    exact k d g' H' F2 v r' kp ex b q (gotS_later hg kp le)
  · rw [ho]
    intro H' F2 cls dd ex b q
    refine hg σ H' F2 cls dd ?_ b q
    have e2 := r.er
    exact r.exit ex
theorem gotS_expH {ρ : EX} {f : D → M Fl} {Q : VK} (r : SR fs O F env σ H g) (hg : GotS fs L O' F H Dn (M.bnd (ρ (hide O env)) f g))
    (k : ∀ d g' H' F2 v, SR fs O F2 env σ H' g' → Kp F H H' → (F.le F2) → R H' F2 fs.fr.β d v → GotS fs L O' F2 H' Dn (f d g') → Q v H') : Got fs.fr F σ H Q (ρ (hide O env) g) := by
  rcases gotS_bnd hg with ⟨d, g', ho, hg⟩ | ⟨c, p, g', ho, hg⟩
  · rw [ho]
    intro v H' F2 ex b q
    obtain ⟨r', kp⟩ := r.backH ex b
    exact k d g' H' F2 v r' kp ex.mono q (gotS_later hg kp ex.mono)
  · rw [ho]
    intro H' F2 cls dd ex b q
    exact hg σ H' F2 cls dd (r.ext.trans ex) b q
/-- what a reading t asks, by the outcome -/
def Red (fr : Fr) (t : TE) (ρ : EX) : Prop := ∀ σ H Q env F g, ER fr F env σ H g → Got fr F σ H Q (ρ env g) → t σ H Q
theorem red_ev {fr : Fr} {ρ : EX} : Red fr (tE fr ρ) ρ := fun σ H Q env F g r hg => ⟨env, F, g, r, hg⟩
theorem red_lc {fr : Fr} {ι : IX} {bd : BX} {τ : TX} {ρ : EX} {vs : List Nat} (hvs : Sub vs bd) : Red fr (tLc (iV fr ι) (gV fr bd) (tT fr τ) (tE fr ρ) vs) (lcE ι bd τ ρ vs) := fun σ H Q env F g r hg => lc_red r hvs hg
def asgF (i : Nat) (ρ : EX) : SX := fun env => M.bnd (ρ env) fun d => if flat d then M.ret (.nx (env.set i (some d))) else M.bad
def asgH (O : List Nat) (i : Nat) (ρ : EX) : SX := fun env => M.bnd (ρ (hide O env)) fun d => M.ret (.nx (env.set i (some d)))
theorem flat_notC {d : D} (h : flat d = true) : isC d = false := by
  cases d <;> first | rfl | (simp [flat] at h)
theorem sv_asgF {i : Nat} {ρ : EX} {te : TE} (h : PS X st (tAsg te (gName i))) (rd : Red fs.fr te ρ) (hO : ∀ j, j ≠ i → (j ∈ O' ↔ j ∈ O)) : SV X fs L O st (asgF i ρ) O' := by
  refine ⟨fun pins s σ H D I ⟨F, env, g, r, hg⟩ => h.run pins s σ H D I (rd σ H _ env _ g r.er (gotS_exp r hg fun d g' H' F2 v r' kp ex b q hq => ?_))⟩
  by_cases hf : flat d = true
  · rw [if_pos hf] at hq
    exact hq _ H' _ (r'.set (R.flat_ (F := F2) (F' := F.mix F2) (fun _ _ h => h) d v hf q) i hO fun _ => flat_notC hf) (Kp.refl _ H') Reg.le.rfl
  · rw [if_neg hf] at hq
    exact (show False from hq).elim
theorem sv_asgH {i : Nat} {ρ : EX} {te : TE} (h : PS X st (tAsg te (gName i))) (rd : Red fs.fr te ρ) (hO : ∀ j, j ≠ i → (j ∈ O' ↔ j ∈ O)) (hi : i ∉ O') : SV X fs L O st (asgH O i ρ) O' := by
  refine ⟨fun pins s σ H D I ⟨F, env, g, r, hg⟩ => h.run pins s σ H D I (rd σ H _ _ _ g r.erH (gotS_expH r hg fun d g' H' F2 v r' kp hF q hq => ?_))⟩
  exact hq _ H' F2 (r'.set q i hO fun z => absurd z hi) (Kp.refl F2 H') Reg.le.rfl
/-- return -/
def retS (ρ : EX) : SX := fun env => M.bnd (ρ env) fun d => M.ret (.rt d)
theorem sv_ret {ρ : EX} (h : EV X fs.fr e ρ) : SV X fs L O (.Return (some e) pos) (retS ρ) O' := by
  refine ⟨fun pins s σ H D I ⟨F, env, g, r, hg⟩ => (ps_ret h).run pins s σ H D I ⟨env, _, g, r.er, gotS_exp r hg fun d g' H' F2 v r' kp ex b q hq => ?_⟩⟩
  exact hq v H' F2 (r.exit ex) b q (Kp.refl _ H')
def retNS : SX := fun _ => M.ret (.rt .non)
theorem sv_retN : SV X fs L O (.Return none pos) retNS O' := ⟨fun pins s σ H D I ⟨F, env, g, r, hg⟩ => ps_retN.run pins s σ H D I (hg .non H F r.ext r.bag non_r (Kp.refl F H))⟩
/-- an expression, its value dropped -/
def dropS (ρ : EX) : SX := fun env => M.bnd (ρ env) fun _ => M.ret (.nx env)
theorem sv_expr {ρ : EX} (h : EV X fs.fr e ρ) (hs : swapsWith e none pos.line X.env = pure false := by rfl) : SV X fs L O (.Expr e pos) (dropS ρ) O := by
  refine ⟨fun pins s σ H D I ⟨F, env, g, r, hg⟩ => (ps_expr h hs).run pins s σ H D I ⟨env, _, g, r.er, gotS_exp r hg fun d g' H' F2 v r' kp ex b q hq => ?_⟩⟩
  exact hq σ H' _ r' (Kp.refl _ H') Reg.le.rfl
/-- if -/
def ifS (τ : TX) (a b : SX) : SX := fun env => M.bnd (τ env) fun c => if c then a env else b env
theorem gotS_test {τ : TX} {f : Bool → M Fl} {Q : Bool → Hp → Prop} (r : SR fs O F env σ H g) (hg : GotS fs L O' F H Dn (M.bnd (τ env) f g))
    (k : ∀ d g' H' F1, SR fs O F1 env σ H' g' → Kp F H H' → F.le F1 → GotS fs L O' F1 H' Dn (f d g') → Q d H') : GotB fs.fr (F.or fun a => held O env σ a) σ H Q (τ env g) := by
  rcases gotS_bnd hg with ⟨d, g', ho, hg⟩ | ⟨c, p, g', ho, hg⟩
  · rw [ho]
    intro H' F2 ex b
    obtain ⟨r', kp, le⟩ := r.back ex b
    exact k d g' H' _ r' kp le (gotS_later hg kp le)
  · rw [ho]
    intro H' F2 cls dd ex b q
    refine hg σ H' F2 cls dd ?_ b q
    exact r.exit ex
theorem sv_if {c : Expr} {a b : List Stmt} {τ : TX} {ρa ρb : SX} (hc : TV X fs.fr c τ) (ha : SVs X fs L O a ρa O') (hb : SVs X fs L O b ρb O') : SV X fs L O (.If c a b pos) (ifS τ ρa ρb) O' := by
  refine ⟨fun pins s σ H D I ⟨F, env, g, r, hg⟩ => (ps_if hc ha hb).run pins s σ H D I ⟨env, _, g, r.er, gotS_test r hg fun d g' H' F1 r' kp le hq => ?_⟩⟩
  cases d with
  | true => exact iteT ⟨F1, env, g', r', hq⟩
  | false => exact iteF ⟨F1, env, g', r', hq⟩
end
end VC

/-! VC7: new things, changed things, loops, defs. -/
namespace VC
open PySem PySem.Spec L2 RZ
open PyProof.Rows hiding St

def RedN (fr : Fr) (t : TE) (ρ : EX) : Prop := ∀ σ H Q env F g, ER fr F env σ H g → GotN fr F σ H Q (ρ env g) → t σ H Q
theorem redN_lc {fr : Fr} {ι : IX} {bd : BX} {τ : TX} {ρ : EX} {vs : List Nat} (hvs : Sub vs bd) : RedN fr (tLc (iV fr ι) (gV fr bd) (tT fr τ) (tE fr ρ) vs) (lcE ι bd τ ρ vs) := fun σ H Q env F g r hg => lc_redN r hvs hg
def tEN (fr : Fr) (ρ : EX) : TE := fun σ H Q => ∃ env F g, ER fr F env σ H g ∧ GotN fr F σ H Q (ρ env g)
def EVN (X : Cx) (fr : Fr) (e : Expr) (ρ : EX) : Prop := PE X e (tEN fr ρ)
theorem redN_ev {fr : Fr} {ρ : EX} : RedN fr (tEN fr ρ) ρ := fun σ H Q env F g r hg => ⟨env, F, g, r, hg⟩
def HitN (fr : Fr) (F : Reg) (H : Hp) (g : Bag) (d : D) : VK := fun v H' => ∃ F', Ext fr.β F H F' H' ∧ BagOk fr.β F' H' g ∧ New fr.β H F' H' d v
section
variable {X : Cx} {fr : Fr} {pos : Pos} {e : Expr} {es : List Expr} {ρ : EX} {ρs : AX} {F : Reg} {H : Hp} {g : Bag}
theorem BagOk.neN (b : BagOk fr.β F H g) {p : Addr} (hp : H p = none) : some p ≠ fr.β.ad := fun z => by
  have q := (b.at_ p z.symm).2
  rw [hp] at q
  cases q
theorem hitN_lst (b : BagOk fr.β F H g) {ds : List D} {vs : List V} (h : Rs H F fr.β ds vs) {p : Addr} (hp : H p = none) : HitN fr F H g (.lst ds) (.ref p) (upd H p (.lst vs)) :=
  ⟨F, Ext.put hp, b.put hp, p, vs, rfl, hp, fun f => b.live p f hp, b.neN hp, upd_same, h.ext b (Ext.put hp)⟩
theorem gotN_hit {σ : St} {Q : VK} {d : D} (h : GotN fr F σ H Q (.ok d g)) {v : V} {H' : Hp} (q : HitN fr F H g d v H') : Q v H' :=
  let ⟨F', e, b, r⟩ := q
  h v H' F' e b r
theorem ofO_gotN {o : Option D} {σ : St} {Q : VK} (h : GotN fr F σ H Q (M.ofO o g)) : ∃ a, o = some a ∧ GotN fr F σ H Q (.ok a g) := by
  cases o with
  | none => exact (show False from h).elim
  | some a => exact ⟨a, rfl, h⟩
theorem EV.goMN (h : EV X fr e ρ) {pins : List (Addr × Obj)} {s : Shared} {σ : St} {env : Slots} {P : Value → Shared → Prop} {f : D → M D} {Q : VK} (I : Inv X pins σ H s) (r : ER fr F env σ H g)
    (hg : GotN fr F σ H Q (M.bnd (ρ env) f g))
    (hk : ∀ d g' u s' v H' F', Inv X pins σ H' s' → RelV v u → Ext fr.β F H F' H' → ER fr F' env σ H' g' → R H' F' fr.β d v → GotN fr F' σ H' Q (f d g') → P u s') :
    wpAny (model X.prog X.w) X.A (eval e X.env) P X.xe s := by
  rcases gotN_bnd hg with ⟨d, g', ho, hg⟩ | ⟨c, p, g', ho, hg⟩
  · exact h.go I r (fun z => by rw [ho] at z; cases z) (fun c p g2 z => by rw [ho] at z; cases z) fun d2 g2 z u s' v H' F' I' rv ex er q => by
      rw [ho] at z
      cases z
      exact hk d g' u s' v H' F' I' rv ex er q (hg.later ex)
  · exact h.go I r (fun z => by rw [ho] at z; cases z) (fun c2 p2 g2 z => by rw [ho] at z; cases z; exact hg) fun d2 g2 z => by
      rw [ho] at z
      cases z
theorem AV.goMN {cpos : Pos} (h : AV X fr es ρs) {pins : List (Addr × Obj)} {s : Shared} {σ : St} {env : Slots} {P : List Value → Shared → Prop} {f : List D → M D} {Q : VK} (I : Inv X pins σ H s) (r : ER fr F env σ H g)
    (hg : GotN fr F σ H Q (M.bnd (ρs env) f g))
    (hk : ∀ d g' us s' vs H' F', Inv X pins σ H' s' → Vals vs us → Ext fr.β F H F' H' → ER fr F' env σ H' g' → Rs H' F' fr.β d vs → GotN fr F' σ H' Q (f d g') → P us s') :
    wpAny (model X.prog X.w) X.A (spliced (backTo cpos (starEach es X.env))) P X.xe s := by
  have key : tA fr ρs σ H (fun vs H' => ∃ d g' F', Ext fr.β F H F' H' ∧ ER fr F' env σ H' g' ∧ Rs H' F' fr.β d vs ∧ GotN fr F' σ H' Q (f d g')) := by
    refine ⟨env, F, g, r, ?_⟩
    rcases gotN_bnd hg with ⟨d, g', ho, hg⟩ | ⟨c, p, g', ho, hg⟩
    · rw [ho]
      exact fun v H' F' ex b q => ⟨d, g', F', ex, r.ext ex b, q, hg.later ex⟩
    · rw [ho]; exact hg
  exact thn (PA.run h cpos pins s σ H _ I key) fun us s' ⟨vs, H', I', rv, d, g', F', ex, er, q, hq⟩ => hk d g' us s' vs H' F' I' rv ex er q hq
structure Op2N (X : Cx) (fr : Fr) (f : Value → Value → Sem Value) (q : D → D → Option D) : Prop where
  at_ : ∀ H F g x y d1 d2 d, BagOk fr.β F H g → R H F fr.β d1 x → R H F fr.β d2 y → q d1 d2 = some d → ∃ r, OpR X f r ∧ r x y H (HitN fr F H g d)
structure OpLN (X : Cx) (fr : Fr) (f : Value) (q : List D → Option D) : Prop where
  at_ : ∀ H F g xs ds d, BagOk fr.β F H g → Rs H F fr.β ds xs → q ds = some d → ∃ r, CallR X f r ∧ r xs H (HitN fr F H g d)
theorem OpLN.ol {f : Value} {q : List D → Option D} (h : OpLN X fr f q) : OpL X fr f q := ⟨fun H F g xs ds d b rs e => by
  obtain ⟨r, h1, h2⟩ := h.at_ H F g xs ds d b rs e
  refine ⟨fun vs H2 Q2 => r vs H2 (HitN fr F H g d) ∧ ∀ v H', HitN fr F H g d v H' → Q2 v H', fun pins s σ H2 xs2 us Q2 I rv ⟨w1, w2⟩ => thn (h1 pins s σ H2 xs2 us _ I rv w1) fun u s' z => ep_imp z w2, h2, fun v H' ⟨F', e1, b1, n⟩ => n.r e1 b1⟩⟩
variable {a b : Expr} {ρa ρb : EX}
theorem evn_bin {op : Operator} {q : D → D → Option D} (ho : Op2N X fr (binaryOp op) q) (ha : EV X fr a ρa) (hb : EV X fr b ρb) : EVN X fr (.BinOp a op b pos) (bin2 q ρa ρb) := by
  refine ⟨fun pins s σ H Q I ⟨env, F, g, r, hg⟩ => wpAny_BinOp ?_⟩
  refine ha.goMN I r hg fun d1 g1 u1 s1 v1 H1 F1 I1 rv1 ex1 er1 q1 hg1 => hb.goMN I1 er1 hg1 fun d2 g2 u2 s2 v2 H2 F2 I2 rv2 ex2 er2 q2 hg2 => ?_
  obtain ⟨d, ed, hg3⟩ := ofO_gotN hg2
  obtain ⟨r', hr, hq⟩ := ho.at_ H2 F2 g2 v1 v2 d1 d2 d er2.bag (q1.ext er1.bag ex2) q2 ed
  exact thn (hr pins s2 σ H2 v1 v2 u1 u2 _ I2 rv1 rv2 hq) fun u s' e => ep_imp e fun v H' z => gotN_hit hg3 z
def addL : D → D → Option D
  | .lst xs, .lst ys => if xs.length + ys.length ≤ line then some (.lst (xs ++ ys)) else none
  | _, _ => none
def mulL : D → D → Option D
  | .lst xs, .int k => if -(2 ^ 63) ≤ k ∧ k < 2 ^ 63 ∧ xs.length * k.toNat ≤ line then some (.lst (List.replicate k.toNat xs).flatten) else none
  | _, _ => none
theorem o_addN : Op2N X fr (binaryOp .Add) addL := ⟨fun H F g x y d1 d2 d b r1 r2 e => by
  unfold addL at e
  split at e
  · split at e
    · rename_i xs ys hl
      cases e
      obtain ⟨a, vs, rfl, f1, h1, q1⟩ := r_lst r1
      obtain ⟨a2, vs2, rfl, f2, h2, q2⟩ := r_lst r2
      exact ⟨_, op_cat, a, a2, vs, vs2, rfl, rfl, h1, h2, by rw [← q1.length, ← q2.length, line_eq]; exact hl, fun p hp => hitN_lst b (q1.append q2) hp⟩
    · cases e
  · cases e⟩
theorem o_mulN : Op2N X fr (binaryOp .Mult) mulL := ⟨fun H F g x y d1 d2 d b r1 r2 e => by
  unfold mulL at e
  split at e
  · split at e
    · rename_i xs k hl
      cases e
      obtain ⟨a, vs, rfl, f1, h1, q1⟩ := r_lst r1
      exact ⟨_, op_rep, a, k, vs, rfl, r_int r2, h1, hl.1, hl.2.1, by rw [← q1.length, line_eq]; exact hl.2.2, fun p hp => hitN_lst b (q1.rep _) hp⟩
    · cases e
  · cases e⟩
theorem evn_lst (h : AV X fr es ρs) : EVN X fr (.List es pos) (lstE ρs) := by
  refine ⟨fun pins s σ H Q I ⟨env, F, g, r, hg⟩ => (pe_lst h).run pins s σ H Q I ?_⟩
  refine ⟨env, F, g, r, ?_⟩
  rcases gotN_bnd hg with ⟨ds, g', ho, hg⟩ | ⟨c, p, g', ho, hg⟩
  · rw [ho]
    intro vs H' F' ex b q
    obtain ⟨d, ed, hg⟩ := ofO_gotN hg
    split at ed
    · rename_i hl
      cases ed
      exact ⟨le_line (by rw [← q.length]; exact hl), fun p hp => gotN_hit (hg.later ex) (hitN_lst b q hp)⟩
    · cases ed
  · rw [ho]; exact hg
theorem evn_callTy {x : Str} {T : String} {p : Pos} {q : List D → Option D} (ho : OpLN X fr (.type T) q) (hg : Gl X x) (hm : X.mg x = none) (hv : bootBuiltins x = some (.type T)) (ha : AV X fr (e :: es) ρs) (hn : x ≠ "__name__" := by decide) (hdb : (x == ("__debug__" : Str)) = false := by decide)
    (he : starEach (e :: es) X.env = (false, eval e X.env) :: starEach es X.env := by rfl) (hpl : (backTo pos (starEach es X.env)).any (·.1) = false := by rfl) : EVN X fr (.Call (.Name x p) (e :: es) [] pos) (callE q ρs) := by
  refine ⟨fun pins s σ H Q I ⟨env, F, g, r, hgt⟩ => ?_⟩
  refine wpAny_Call_Name_kw (ld_blt I hg hm hv ?_ hn hdb)
  refine PyProof.Rows.callWith_type1 (ha.goMN I r hgt fun ds g1 us s1 vs H1 F1 I1 rv ex er qs hq => ?_) he hpl
  obtain ⟨d, ed, hq⟩ := ofO_gotN hq
  obtain ⟨r', hr, hh⟩ := ho.at_ H1 F1 g1 vs ds d er.bag qs ed
  exact thn (hr pins s1 σ H1 vs us _ I1 rv hh) fun u s' e => ep_imp e fun v H' z => gotN_hit hq z
theorem evn_callB {x : Str} {id : String} {p : Pos} {q : List D → Option D} (ho : OpLN X fr (.builtin id) q) (hg : Gl X x) (hm : X.mg x = none) (hv : bootBuiltins x = some (.builtin id)) (ha : AV X fr (e :: es) ρs) (hn : x ≠ "__name__" := by decide) (hdb : (x == ("__debug__" : Str)) = false := by decide)
    (he : starEach (e :: es) X.env = (false, eval e X.env) :: starEach es X.env := by rfl) (hpl : (backTo pos (starEach es X.env)).any (·.1) = false := by rfl) : EVN X fr (.Call (.Name x p) (e :: es) [] pos) (callE q ρs) := by
  refine ⟨fun pins s σ H Q I ⟨env, F, g, r, hgt⟩ => ?_⟩
  refine wpAny_Call_Name_kw (ld_blt I hg hm hv ?_ hn hdb)
  refine PyProof.Rows.callWith_builtin1 (ha.goMN I r hgt fun ds g1 us s1 vs H1 F1 I1 rv ex er qs hq => ?_) he hpl
  obtain ⟨d, ed, hq⟩ := ofO_gotN hq
  obtain ⟨r', hr, hh⟩ := ho.at_ H1 F1 g1 vs ds d er.bag qs ed
  exact thn (hr pins s1 σ H1 vs us _ I1 rv hh) fun u s' e => ep_imp e fun v H' z => gotN_hit hq z
/-- a slice of a list -/
def slL : D → Option Int → Option Int → Option D
  | .lst xs, lo, hi => some (.lst (cutD xs lo hi))
  | _, _, _ => none
def slNE (ρ : EX) (l h : PX) : EX := fun env => M.bnd (ρ env) fun d => M.bnd (l env) fun i => M.bnd (h env) fun j => M.ofO (slL d i j)
end
end VC

/-! VC8: stores, loops, defs. -/
namespace VC
open PySem PySem.Spec L2 RZ
open PyProof.Rows hiding St

section
variable {X : Cx} {fr : Fr} {pos : Pos} {e : Expr} {ρ : EX} {F : Reg} {H : Hp} {g : Bag}
theorem PV.goMN {lo : Option Expr} {π : PX} (h : PV X fr lo π) {pins : List (Addr × Obj)} {s : Shared} {σ : St} {env : Slots} {P : Value → Shared → Prop} {f : Option Int → M D} {Q : VK} (I : Inv X pins σ H s) (r : ER fr F env σ H g)
    (hg : GotN fr F σ H Q (M.bnd (π env) f g))
    (hk : ∀ i g' u s' H' F', Inv X pins σ H' s' → IsPart u i → Ext fr.β F H F' H' → ER fr F' env σ H' g' → GotN fr F' σ H' Q (f i g') → P u s') : wpAny (model X.prog X.w) X.A (evalPart lo X.env) P X.xe s := by
  rcases gotN_bnd hg with ⟨i, g', ho, hg2⟩ | ⟨c, p, g', ho, hg2⟩
  · refine h pins s σ H F env g P I r (fun z => by rw [ho] at z; cases z) (fun c p g2 z => by rw [ho] at z; cases z) fun i2 g2 z u s' H' F' I' pu ex er => ?_
    rw [ho] at z
    cases z
    exact hk i g' u s' H' F' I' pu ex er (hg2.later ex)
  · exact h pins s σ H F env g P I r (fun z => by rw [ho] at z; cases z) (fun c2 p2 g2 z => by rw [ho] at z; cases z; exact hg2) fun i2 g2 z => by
      rw [ho] at z
      cases z
theorem evn_slice {lo hi : Option Expr} {l h : PX} {p2 : Pos} (he : EV X fr e ρ) (hl : PV X fr lo l) (hu : PV X fr hi h) : EVN X fr (.Subscript e (.Slice lo hi none p2) pos) (slNE ρ l h) := by
  refine ⟨fun pins s σ H Q I ⟨env, F, g, r, hg⟩ => ?_⟩
  refine Subscript_ (he.goMN I r hg fun d g1 u s1 v H1 F1 I1 rv ex1 er1 q hg1 => ?_)
  refine wpAny_Slice (hl.goMN I1 er1 hg1 fun i g2 vl s2 H2 F2 I2 pl ex2 er2 hg2 => hu.goMN I2 er2 hg2 fun j g3 vu s3 H3 F3 I3 pu ex3 er3 hg3 => ?_)
  rw [evalPart_none]
  refine wpAny_pure ?_
  obtain ⟨d2, ed, hg4⟩ := ofO_gotN hg3
  cases d with
  | lst xs =>
    cases ed
    obtain ⟨a, vs, rfl, f1, h1, rs⟩ := r_lst ((q.ext er1.bag ex2).ext er2.bag ex3)
    have I4 : Inv X pins σ H3 { s3 with heap := s3.heap.push { cls := .type "slice", data := .fields #[vl, vu, .none] } } := I3.kept (t' := s3.toks) fun b ob q => Heap.get?_push_of_some _ q
    obtain ⟨T, id, hT, ht, hgi⟩ := sl_list pins { s3 with heap := s3.heap.push { cls := .type "slice", data := .fields #[vl, vu, .none] } } σ H3 _ u vl vu i j s3.heap.objs.size _ I4 rv (Heap.IsSliceOf.new ..) pl pu ⟨a, vs, rfl, SqL.of h1, fun p hp => hitN_lst er3.bag rs.cut hp⟩
    show wpAny (model X.prog X.w) X.A (subscriptTail e (.Slice lo hi none p2) u (.ref s3.heap.objs.size)) (EP X pins σ Q) X.xe { s3 with heap := s3.heap.push { cls := .type "slice", data := .fields #[vl, vu, .none] } }
    exact thn (tail_any (ops := [.ref s3.heap.objs.size, u]) ht hT hgi (by with_unfolding_all rfl)) fun u s' e => ep_imp e fun v H' z => gotN_hit hg4 z
  | _ => cases ed
/-- new dicts -/
def newK : EX := fun _ => M.ret (.dK [] [])
def newT : EX := fun _ => M.ret (.dT [] [])
theorem evn_newK : EVN X fr (.Dict [] [] pos) newK := ⟨fun pins s σ H Q I ⟨env, F, g, r, hg⟩ => pe_dnewK.run pins s σ H Q I fun p hp =>
  hg (.ref p) _ F (Ext.put hp) (r.bag.put hp) ⟨p, [], rfl, hp, fun f => r.bag.live p f hp, r.bag.neN hp, upd_same, rfl, .nil⟩⟩
theorem evn_newT : EVN X fr (.Dict [] [] pos) newT := ⟨fun pins s σ H Q I ⟨env, F, g, r, hg⟩ => pe_dnewT.run pins s σ H Q I fun p hp =>
  hg (.ref p) _ F (Ext.put hp) (r.bag.put hp) ⟨p, [], rfl, hp, fun f => r.bag.live p f hp, r.bag.neN hp, upd_same, rfl, .nil⟩⟩
end

/-! ### a slot gets a new thing -/
def flatIn : D → Bool
  | .lst xs => flats xs
  | .dK _ xs => flats xs
  | .dT _ xs => flats xs
  | _ => false
section
variable {X : Cx} {fs : Fs} {L O O1 O2 O' : List Nat} {st : Stmt} {rest : List Stmt} {pos : Pos} {e : Expr} {σ : St} {H : Hp} {F : Reg} {env : Slots} {g : Bag} {Dn : Ends}
theorem New.own {H' : Hp} {F' : Reg} {d : D} {v : V} (n : New fs.fr.β H F' H' d v) (hf : flatIn d = true) (hF : ∀ a, F a → F' a) (hc : ∀ (n : Nat) (a : Addr), F'.cs[n]? = some a → F.cs[n]? = some a) (h0 : ∀ a, H a = none → fs.H0 a = none) : ∃ a, v = .ref a ∧ H a = none ∧ Own fs H' F d (.ref a) := by
  cases d with
  | lst xs =>
    obtain ⟨a, vs, rfl, n, f, nb, h, r⟩ := n
    exact ⟨a, rfl, n, a, vs, rfl, fun z => f (hF a z), h0 a n, h, Rs.flat_ hc xs vs hf r⟩
  | dK ks xs =>
    obtain ⟨a, kv, rfl, n, f, nb, h, ek, r⟩ := n
    exact ⟨a, rfl, n, a, kv, rfl, fun z => f (hF a z), h0 a n, h, ek, Rs.flat_ hc xs _ hf r⟩
  | dT ks xs =>
    obtain ⟨a, kv, rfl, n, f, nb, h, ek, r⟩ := n
    exact ⟨a, rfl, n, a, kv, rfl, fun z => f (hF a z), h0 a n, h, ek, Rs.flat_ hc xs _ hf r⟩
  | _ => exact n.elim
theorem New.ownH {H' : Hp} {F' : Reg} {d : D} {v : V} (n : New fs.fr.β H F' H' d v) (h0 : ∀ a, H a = none → fs.H0 a = none) : ∃ a, v = .ref a ∧ H a = none ∧ Own fs H' F' d (.ref a) := by
  cases d with
  | lst xs =>
    obtain ⟨a, vs, rfl, n, f, nb, h, r⟩ := n
    exact ⟨a, rfl, n, a, vs, rfl, f, h0 a n, h, r⟩
  | dK ks xs =>
    obtain ⟨a, kv, rfl, n, f, nb, h, ek, r⟩ := n
    exact ⟨a, rfl, n, a, kv, rfl, f, h0 a n, h, ek, r⟩
  | dT ks xs =>
    obtain ⟨a, kv, rfl, n, f, nb, h, ek, r⟩ := n
    exact ⟨a, rfl, n, a, kv, rfl, f, h0 a n, h, ek, r⟩
  | _ => exact n.elim
/-- an owned slot's thing stands in the heap -/
theorem SR.there (r : SR fs O F env σ H g) {j : Nat} {e : D} {a : Addr} (hj : j ∈ O) (he : env[j]? = some (some e)) (c : isC e = true) (es : σ[j]? = some (some (.ref a))) : H a ≠ none := by
  obtain ⟨v, ev, _, h2⟩ := r.val j e he
  obtain ⟨b, o, eb, _, _, hb, _⟩ := (h2 hj).at_ c
  rw [es] at ev
  cases ev
  cases eb
  rw [hb]
  exact fun z => nomatch z
theorem gotS_expN {ρ : EX} {f : D → M Fl} {Q : VK} (r : SR fs O F env σ H g) (hg : GotS fs L O' F H Dn (M.bnd (ρ env) f g))
    (k : ∀ d g' H' F2 v, SR fs O (F.mix F2) env σ H' g' → Kp F H H' → Ext fs.fr.β (F.or fun a => held O env σ a) H F2 H' → BagOk fs.fr.β F2 H' g' → New fs.fr.β H F2 H' d v → GotS fs L O' (F.mix F2) H' Dn (f d g') → Q v H') : GotN fs.fr (F.or fun a => held O env σ a) σ H Q (ρ env g) := by
  rcases gotS_bnd hg with ⟨d, g', ho, hg⟩ | ⟨c, p, g', ho, hg⟩
  · rw [ho]
    intro v H' F2 ex b q
    obtain ⟨r', kp, le⟩ := r.back ex b
    exact k d g' H' F2 v r' kp ex b q (gotS_later hg kp le)
  · have q := gotS_exp (Q := Q) (ρ := fun _ _ => .exn c p g') (f := fun _ => M.bad) r (env := env) hg fun d g2 H' F2 v _ _ _ _ _ z => z.elim
    rw [ho]
    exact q
theorem gotS_expNH {ρ : EX} {f : D → M Fl} {Q : VK} (r : SR fs O F env σ H g) (hg : GotS fs L O' F H Dn (M.bnd (ρ (hide O env)) f g))
    (k : ∀ d g' H' F2 v, SR fs O F2 env σ H' g' → Kp F H H' → (F.le F2) → New fs.fr.β H F2 H' d v → GotS fs L O' F2 H' Dn (f d g') → Q v H') : GotN fs.fr F σ H Q (ρ (hide O env) g) := by
  rcases gotS_bnd hg with ⟨d, g', ho, hg⟩ | ⟨c, p, g', ho, hg⟩
  · rw [ho]
    intro v H' F2 ex b q
    obtain ⟨r', kp⟩ := r.backH ex b
    exact k d g' H' F2 v r' kp ex.mono q (gotS_later hg kp ex.mono)
  · rw [ho]
    intro H' F2 cls dd ex b q
    exact hg σ H' F2 cls dd (r.ext.trans ex) b q
def asgN (i : Nat) (ρ : EX) : SX := fun env => M.bnd (ρ env) fun d => if flatIn d then M.ret (.nx (env.set i (some d))) else M.bad
theorem sv_asgN {i : Nat} {ρ : EX} {te : TE} (h : PS X st (tAsg te (gName i))) (rd : RedN fs.fr te ρ) (hO : ∀ j, j ≠ i → (j ∈ O' ↔ j ∈ O)) (hi : i ∈ O') : SV X fs L O st (asgN i ρ) O' := by
  refine ⟨fun pins s σ H D I ⟨F, env, g, r, hg⟩ => h.run pins s σ H D I (rd σ H _ env _ g r.er (gotS_expN r hg fun d g' H' F2 v r' kp ex b q hq => ?_))⟩
  by_cases hf : flatIn d = true
  · rw [if_pos hf] at hq
    obtain ⟨a, rfl, n, own⟩ := q.own (F := F.mix F2) hf (fun x f => Reg.mix_in (fun y f => ex.mono.fz y (.inl f)) f) (fun _ _ h => h) r.ext.there
    exact hq _ H' _ (r'.setN own i hO hi fun j e hj hne he c es => r.there hj he c es n) (Kp.refl _ H') Reg.le.rfl
  · rw [if_neg hf] at hq
    exact (show False from hq).elim
def asgNH (O : List Nat) (i : Nat) (ρ : EX) : SX := fun env => M.bnd (ρ (hide O env)) fun d => M.ret (.nx (env.set i (some d)))
theorem sv_asgNH {i : Nat} {ρ : EX} {te : TE} (h : PS X st (tAsg te (gName i))) (rd : RedN fs.fr te ρ) (hO : ∀ j, j ≠ i → (j ∈ O' ↔ j ∈ O)) (hi : i ∈ O') : SV X fs L O st (asgNH O i ρ) O' := by
  refine ⟨fun pins s σ H D I ⟨F, env, g, r, hg⟩ => h.run pins s σ H D I (rd σ H _ _ _ g r.erH (gotS_expNH r hg fun d g' H' F2 v r' kp hF q hq => ?_))⟩
  obtain ⟨a, rfl, n, own⟩ := q.ownH r.ext.there
  exact hq _ H' F2 (r'.setN own i hO hi fun j e hj hne he c es => r.there hj he c es n) (Kp.refl F2 H') Reg.le.rfl

/-! ### an owned thing is changed -/
/-- the heap at an owned slot's thing is written -/
theorem SR.write (r : SR fs O F env σ H g) {i : Nat} {d d' : D} {a : Addr} {o : HO} (hi : i ∈ O) (he : env[i]? = some (some d)) (c : isC d = true) (c' : isC d' = true) (es : σ[i]? = some (some (.ref a))) (hnt : ∀ xs, o ≠ .tup xs)
    (own : Own fs (upd H a o) F d' (.ref a)) : SR fs O F (env.set i (some d')) σ (upd H a o) g ∧ Kp F H (upd H a o) := by
  obtain ⟨v, ev, _, h2⟩ := r.val i d he
  obtain ⟨b, ob, eb, nf, n0, hb, nt⟩ := (h2 hi).at_ c
  rw [es] at ev
  cases ev
  cases eb
  have nb : some a ≠ fs.fr.β.ad := r.neB n0
  obtain ⟨kp, bg⟩ := r.bag.beside (o := o) nf hb nt nb
  have hl : i < env.length := (List.getElem?_eq_some_iff.mp he).1
  refine ⟨⟨by simpa using r.len, fun j e h => ?_, fun j k e e' x hj hk ne h h' ce ce' ej ek => ?_, bg, r.ext.over n0, r.nb⟩, kp⟩
  · by_cases hj : j = i
    · subst hj
      rw [List.getElem?_set_self hl] at h
      cases h
      exact ⟨_, es, fun hm => absurd hi hm, fun _ => own⟩
    · rw [List.getElem?_set_ne (Ne.symm hj)] at h
      obtain ⟨u, e2, q1, q2⟩ := r.val j e h
      refine ⟨u, e2, fun hm => (q1 hm).kp kp Reg.le.rfl, fun hm => (q2 hm).kp kp (Reg.le.rfl) fun x ox ex cx hx => ?_⟩
      obtain ⟨b', o', eb', nf', _, _, _⟩ := (q2 hm).at_ cx
      rw [ex] at eb'
      cases eb'
      refine ⟨?_, nf'⟩
      rw [upd_ne (fun z => r.sep j i e d a hm hi hj h he cx c (by rw [e2, ex, z]) es)]
      exact hx
  · have cc : ∀ {j : Nat} {e : D}, (env.set i (some d'))[j]? = some (some e) → isC e = true → ∃ e2, env[j]? = some (some e2) ∧ isC e2 = true := fun {j e} h ce => by
      by_cases hj : j = i
      · subst hj; exact ⟨d, he, c⟩
      · rw [List.getElem?_set_ne (Ne.symm hj)] at h; exact ⟨e, h, ce⟩
    obtain ⟨e1, h1, c1⟩ := cc h ce
    obtain ⟨e2, h2', c2⟩ := cc h' ce'
    exact r.sep j k e1 e2 x hj hk ne h1 h2' c1 c2 ej ek
end
end VC

/-! VC9: append, stores, the bag's stores. -/
namespace VC
open PySem PySem.Spec L2 RZ
open PyProof.Rows hiding St

def lstAt (env : Slots) (i : Nat) : Option (List D) := match env[i]? with
  | some (some (.lst xs)) => some xs
  | _ => none
theorem lstAt_some {env : Slots} {i : Nat} {xs : List D} (h : lstAt env i = some xs) : env[i]? = some (some (.lst xs)) := by
  unfold lstAt at h
  split at h
  · rename_i ys e
    cases h
    exact e
  · cases h
section
variable {X : Cx} {fs : Fs} {L O O1 O2 O' : List Nat} {st : Stmt} {rest : List Stmt} {pos : Pos} {e : Expr} {σ : St} {H : Hp} {F : Reg} {env : Slots} {g : Bag} {Dn : Ends} {te tk : TE} {ρ κ : EX}
theorem gotS_ofO {α : Type} {o : Option α} {f : α → M Fl} (h : GotS fs L O' F H Dn (M.bnd (M.ofO o) f g)) : ∃ a, o = some a ∧ GotS fs L O' F H Dn (f a g) := by
  cases o with
  | none => exact (show False from h).elim
  | some a => exact ⟨a, rfl, h⟩
theorem gotS_chk {p : Prop} [Decidable p] {m : M Fl} (h : GotS fs L O' F H Dn ((if p then m else M.bad) g)) : p ∧ GotS fs L O' F H Dn (m g) := by
  by_cases q : p
  · rw [if_pos q] at h; exact ⟨q, h⟩
  · rw [if_neg q] at h; exact (show False from h).elim
theorem Kp.upd {a : Addr} {o ob : HO} (nf : ¬ F a) (hb : H a = some ob) (nt : ∀ xs, ob ≠ .tup xs) : Kp F H (upd H a o) :=
  ⟨fun x xs h => by rw [upd_ne (fun z => by rw [z, hb] at h; exact nt xs (Option.some.inj h))]; exact h, fun x u f h => by rw [upd_ne (fun z => nf (by rw [← z]; exact .inl f))]; exact h⟩
/-- the list of an owned slot -/
theorem SR.lst (r : SR fs O F env σ H g) {i : Nat} {xs : List D} (hi : i ∈ O) (he : env[i]? = some (some (.lst xs))) : ∃ a vs, σ[i]? = some (some (.ref a)) ∧ ¬ F a ∧ fs.H0 a = none ∧ H a = some (.lst vs) ∧ Rs H F fs.fr.β xs vs := by
  obtain ⟨v, ev, _, h2⟩ := r.val i _ he
  obtain ⟨a, vs, rfl, nf, n0, ha, q⟩ := h2 hi
  exact ⟨a, vs, ev, nf, n0, ha, q⟩
/-- the list is written -/
theorem SR.putL (r : SR fs O F env σ H g) {i : Nat} {xs ys : List D} {a : Addr} {vs us : List V} (hi : i ∈ O) (he : env[i]? = some (some (.lst xs))) (es : σ[i]? = some (some (.ref a))) (nf : ¬ F a) (n0 : fs.H0 a = none) (ha : H a = some (.lst vs)) (q : Rs H F fs.fr.β ys us) :
    SR fs O F (env.set i (some (.lst ys))) σ (upd H a (.lst us)) g ∧ Kp F H (upd H a (.lst us)) :=
  r.write hi he rfl rfl es (fun _ z => nomatch z) ⟨a, us, rfl, nf, n0, upd_same, q.kp (Kp.upd nf ha fun _ z => nomatch z) Reg.le.rfl⟩
def appF (i : Nat) (ρ : EX) : SX := fun env => M.bnd (M.ofO (lstAt env i)) fun xs => M.bnd (ρ env) fun d => if flat d = true ∧ xs.length < line then M.ret (.nx (env.set i (some (.lst (xs ++ [d]))))) else M.bad
def appH (O : List Nat) (i : Nat) (ρ : EX) : SX := fun env => M.bnd (M.ofO (lstAt env i)) fun xs => M.bnd (ρ (hide O env)) fun d => if xs.length < line then M.ret (.nx (env.set i (some (.lst (xs ++ [d]))))) else M.bad
theorem sv_appF {i : Nat} (h : PS X st (tDrop (tBM X.K "list" rAppend (tVar i) (tCons te tNil)))) (rd : Red fs.fr te ρ) (hi : i ∈ O) : SV X fs L O st (appF i ρ) O := by
  refine ⟨fun pins s σ H D I ⟨F, env, g, r, hg⟩ => h.run pins s σ H D I ?_⟩
  obtain ⟨xs, he, hg⟩ := gotS_ofO hg
  have he := lstAt_some he
  obtain ⟨a, vs, ev, nf, n0, ha, q⟩ := r.lst hi he
  refine ⟨.ref a, ev, .inl ⟨rfl, vs, SqL.of ha⟩, rd σ H _ env _ g r.er (gotS_exp r hg fun d g' H' F2 v r' kp ex b qd hq => ?_)⟩
  obtain ⟨hf, hq⟩ := gotS_chk hq
  obtain ⟨a', vs', ev', nf', n0', ha', q'⟩ := r'.lst hi he
  rw [ev] at ev'
  cases ev'
  obtain ⟨r2, kp2⟩ := r'.putL (ys := xs ++ [d]) (us := vs' ++ [v]) hi he ev nf' n0' ha' (q'.append (.one (R.flat_ (F := F2) (F' := F.mix F2) (fun _ _ h => h) d v hf.1 qd)))
  exact ⟨a, vs', v, rfl, rfl, ha', by rw [← q'.length, line_eq]; exact hf.2, hq σ _ _ r2 kp2 Reg.le.rfl⟩
theorem sv_appH {i : Nat} (h : PS X st (tDrop (tBM X.K "list" rAppend (tVar i) (tCons te tNil)))) (rd : Red fs.fr te ρ) (hi : i ∈ O) : SV X fs L O st (appH O i ρ) O := by
  refine ⟨fun pins s σ H D I ⟨F, env, g, r, hg⟩ => h.run pins s σ H D I ?_⟩
  obtain ⟨xs, he, hg⟩ := gotS_ofO hg
  have he := lstAt_some he
  obtain ⟨a, vs, ev, nf, n0, ha, q⟩ := r.lst hi he
  refine ⟨.ref a, ev, .inl ⟨rfl, vs, SqL.of ha⟩, rd σ H _ _ _ g r.erH (gotS_expH r hg fun d g' H' F2 v r' kp hF qd hq => ?_)⟩
  obtain ⟨hf, hq⟩ := gotS_chk hq
  obtain ⟨a', vs', ev', nf', n0', ha', q'⟩ := r'.lst hi he
  rw [ev] at ev'
  cases ev'
  obtain ⟨r2, kp2⟩ := r'.putL (ys := xs ++ [d]) (us := vs' ++ [v]) hi he ev nf' n0' ha' (q'.append (.one qd))
  exact ⟨a, vs', v, rfl, rfl, ha', by rw [← q'.length, line_eq]; exact hf, hq σ _ F2 r2 kp2 Reg.le.rfl⟩

/-! ### x[k] = e -/
def ixO (n : Nat) (k : D) : Option Nat := match k with
  | .int k => ixN n k
  | _ => none
theorem ixO_some {n : Nat} {k : D} {j : Nat} (h : ixO n k = some j) : ∃ i, k = .int i ∧ ixN n i = some j := by
  cases k with
  | int i => exact ⟨i, rfl, h⟩
  | _ => cases h
def stoF (i : Nat) (κ ρ : EX) : SX := fun env => M.bnd (ρ env) fun d => M.bnd (M.ofO (lstAt env i)) fun xs => M.bnd (κ env) fun k => M.bnd (M.ofO (ixO xs.length k)) fun j =>
  if flat d = true then M.ret (.nx (env.set i (some (.lst (xs.set j d))))) else M.bad
def stoH (O : List Nat) (i : Nat) (κ ρ : EX) : SX := fun env => M.bnd (ρ (hide O env)) fun d => M.bnd (M.ofO (lstAt env i)) fun xs => M.bnd (κ (hide O env)) fun k => M.bnd (M.ofO (ixO xs.length k)) fun j =>
  M.ret (.nx (env.set i (some (.lst (xs.set j d)))))
theorem sv_stoF {i : Nat} (h : PS X st (tAsg te (gSub (tVar i) tk rSetL))) (rd : Red fs.fr te ρ) (rk : Red fs.fr tk κ) (hi : i ∈ O) : SV X fs L O st (stoF i κ ρ) O := by
  refine ⟨fun pins s σ H D I ⟨F, env, g, r, hg⟩ => h.run pins s σ H D I ?_⟩
  refine rd σ H _ env _ g r.er (gotS_exp r hg fun d g1 H1 F2 v r1 kp ex b qd hq => ?_)
  obtain ⟨xs, he, hq⟩ := gotS_ofO hq
  have he := lstAt_some he
  obtain ⟨a, vs, ev, nf, n0, ha, q⟩ := r1.lst hi he
  refine ⟨.ref a, ev, rk σ H1 _ env _ g1 r1.er (gotS_exp r1 hq fun k g2 H2 F3 w r2 kp2 ex2 b2 qk hq => ?_)⟩
  obtain ⟨j, hj, hq2⟩ := gotS_ofO hq
  obtain ⟨hf, hq3⟩ := gotS_chk hq2
  obtain ⟨z, rfl, hj⟩ := ixO_some hj
  obtain ⟨a', vs', ev', nf', n0', ha', q'⟩ := r2.lst hi he
  rw [ev] at ev'
  cases ev'
  have qd' : R H2 ((F.mix F2).mix F3) fs.fr.β d v := (R.flat_ (F := F2) (F' := F.mix F2) (fun _ _ h => h) d v hf qd).kp kp2 (.mix ex2.mono.cs)
  obtain ⟨r3, kp3⟩ := r2.putL (ys := xs.set j d) (us := vs'.set j v) hi he ev nf' n0' ha' (q'.set j qd')
  exact ⟨a, vs', z, j, rfl, r_int qk, ha', by rw [← q'.length]; exact hj, hq3 σ _ _ r3 kp3 Reg.le.rfl⟩
theorem sv_stoH {i : Nat} (h : PS X st (tAsg te (gSub (tVar i) tk rSetL))) (rd : Red fs.fr te ρ) (rk : Red fs.fr tk κ) (hi : i ∈ O) : SV X fs L O st (stoH O i κ ρ) O := by
  refine ⟨fun pins s σ H D I ⟨F, env, g, r, hg⟩ => h.run pins s σ H D I ?_⟩
  refine rd σ H _ _ _ g r.erH (gotS_expH r hg fun d g1 H1 F2 v r1 kp hF qd hq => ?_)
  obtain ⟨xs, he, hq⟩ := gotS_ofO hq
  have he := lstAt_some he
  obtain ⟨a, vs, ev, nf, n0, ha, q⟩ := r1.lst hi he
  refine ⟨.ref a, ev, rk σ H1 _ _ _ g1 r1.erH (gotS_expH r1 hq fun k g2 H2 F3 w r2 kp2 hF2 qk hq => ?_)⟩
  obtain ⟨j, hj, hq3⟩ := gotS_ofO hq
  obtain ⟨z, rfl, hj⟩ := ixO_some hj
  obtain ⟨a', vs', ev', nf', n0', ha', q'⟩ := r2.lst hi he
  rw [ev] at ev'
  cases ev'
  obtain ⟨r3, kp3⟩ := r2.putL (ys := xs.set j d) (us := vs'.set j v) hi he ev nf' n0' ha' (q'.set j (qd.kp kp2 hF2))
  exact ⟨a, vs', z, j, rfl, r_int qk, ha', by rw [← q'.length]; exact hj, hq3 σ _ F3 r3 kp3 Reg.le.rfl⟩
/-- bag[i] = e: the slot i0 holds the bag -/
def bagSet (g : Bag) (i v : Int) : Option Bag := if i = 0 then some ⟨(v, g.b.2.1, g.b.2.2), g.cs⟩ else if i = 1 then some ⟨(g.b.1, v, g.b.2.2), g.cs⟩ else if i = 2 then some ⟨(g.b.1, g.b.2.1, v), g.cs⟩ else none
def isBag (env : Slots) (i : Nat) : Option Unit := match env[i]? with
  | some (some .bag) => some ()
  | _ => none
theorem isBag_some {env : Slots} {i : Nat} {u : Unit} (h : isBag env i = some u) : env[i]? = some (some .bag) := by
  unfold isBag at h
  split at h
  · rename_i e; exact e
  · cases h
def bagS (i0 : Nat) (i : Int) (ρ : EX) : SX := fun env => M.bnd (ρ env) fun d => M.bnd (M.ofO (isBag env i0)) fun _ => M.bnd (M.ofO (asI d)) fun v => fun g => match bagSet g i v with
  | some g' => .ok (.nx env) g'
  | none => .bad
/-- the bag is written -/
theorem SR.putB (r : SR fs O F env σ H g) {b : Addr} {z : Int × Int × Int} (hb : fs.fr.β.ad = some b) : SR fs O F env σ (upd H b (.lst (bagV ⟨z, g.cs⟩))) ⟨z, g.cs⟩ ∧ Kp F H (upd H b (.lst (bagV ⟨z, g.cs⟩))) := by
  obtain ⟨nf, hb'⟩ := r.bag.at_ b hb
  have kp : Kp F H (upd H b (.lst (bagV ⟨z, g.cs⟩))) := Kp.upd nf hb' fun _ z => nomatch z
  refine ⟨⟨r.len, fun j e h => ?_, r.sep, ⟨fun x f z => ?_, fun x q => ?_, r.bag.len, r.bag.nd, r.bag.nf, fun n a c m q => (r.bag.cell n a c m q).mono kp.tup (fun a f => ⟨f, fun u h => kp.reg a u f h⟩) (fun _ _ h => h) fun u h => ?_, r.bag.fl⟩, ⟨r.ext.mono, r.ext.newf, r.ext.newc, fun x u h n m => ?_, fun x h => ?_⟩, r.nb⟩, kp⟩
  · obtain ⟨u, e2, q1, q2⟩ := r.val j e h
    refine ⟨u, e2, fun hm => (q1 hm).kp kp Reg.le.rfl, fun hm => (q2 hm).kp kp Reg.le.rfl fun x ox ex cx hx => ?_⟩
    obtain ⟨b', o', eb', nf', n0', _, _⟩ := (q2 hm).at_ cx
    rw [ex] at eb'
    cases eb'
    refine ⟨?_, nf'⟩
    rw [upd_ne (fun z => r.neB n0' (by rw [z, hb]))]
    exact hx
  · rw [upd_ne (fun z => nf (by rw [← z]; exact f))] at z
    exact r.bag.live x f z
  · rw [hb] at q
    cases q
    exact ⟨nf, upd_same⟩
  · rw [upd_ne (fun z => nf (by rw [← z]; exact .inr (List.mem_of_getElem? m)))]
    exact h
  · rw [upd_ne (fun z => n (by rw [z, hb]))]
    exact r.ext.keep x u h n m
  · by_cases z : x = b
    · rw [z, upd_same] at h; cases h
    · rw [upd_ne z] at h; exact r.ext.there x h
theorem sv_bag {i0 : Nat} {i : Int} (h : PS X st (tAsg te (gSub (tVar i0) (tC (.int i)) rSetL))) (rd : Red fs.fr te ρ) : SV X fs L O st (bagS i0 i ρ) O := by
  refine ⟨fun pins s σ H D I ⟨F, env, g, r, hg⟩ => h.run pins s σ H D I ?_⟩
  refine rd σ H _ env _ g r.er (gotS_exp r hg fun d g1 H1 F2 v r1 kp ex b qd hq => ?_)
  obtain ⟨u, he, hq⟩ := gotS_ofO hq
  have he := isBag_some he
  obtain ⟨z, hz, hq⟩ := gotS_ofO hq
  have ez : v = .int z := by
    cases d with
    | int j => cases hz; exact r_int qd
    | _ => cases hz
  subst ez
  obtain ⟨v', ev, h1, h2⟩ := r1.val i0 _ he
  have hv : ∃ b, fs.fr.β.ad = some b ∧ v' = .ref b := by
    by_cases hi : i0 ∈ O
    · exact r_bag ((Own.plain rfl).mp (h2 hi))
    · exact r_bag (h1 hi)
  obtain ⟨bb, hb, rfl⟩ := hv
  refine ⟨.ref bb, ev, ?_⟩
  have hB := (r1.bag.at_ bb hb).2
  have fin : ∀ g2, bagSet g1 i z = some g2 → ∃ j zz, ixN (bagV g1).length i = some j ∧ (bagV g1).set j (.int z) = bagV g2 ∧ g2 = ⟨zz, g1.cs⟩ := fun g2 e => by
    unfold bagSet at e
    split at e
    · rename_i h0; cases e; exact ⟨0, _, by rw [h0]; rfl, rfl, rfl⟩
    · split at e
      · rename_i h0; cases e; exact ⟨1, _, by rw [h0]; rfl, rfl, rfl⟩
      · split at e
        · rename_i h0; cases e; exact ⟨2, _, by rw [h0]; rfl, rfl, rfl⟩
        · cases e
  cases e2 : bagSet g1 i z with
  | none => rw [e2] at hq; exact (show False from hq).elim
  | some g2 =>
    rw [e2] at hq
    obtain ⟨j, zz, hj, hs, rfl⟩ := fin g2 e2
    obtain ⟨r3, kp3⟩ := r1.putB (z := zz) hb
    exact ⟨bb, bagV g1, i, j, rfl, rfl, hB, hj, by rw [hs]; exact hq σ _ _ r3 kp3 Reg.le.rfl⟩
end
end VC

/-! VC10: unpacking, op=, for, while, a thing handed on. -/
namespace VC
open PySem PySem.Spec L2 RZ
open PyProof.Rows hiding St

section
variable {X : Cx} {fs : Fs} {L O O1 O2 O' : List Nat} {st : Stmt} {rest : List Stmt} {pos : Pos} {e : Expr} {σ : St} {H : Hp} {F : Reg} {env : Slots} {g : Bag} {Dn : Ends} {te tk : TE} {ρ κ : EX}
/-! ### a, b = e -/
def flatL (l : List (Nat × D)) : Bool := l.all fun p => flat p.2
theorem fits_flat {F' : Reg} {β : Bx} (hc : ∀ (n : Nat) (a : Addr), F.cs[n]? = some a → F'.cs[n]? = some a) : ∀ {l : List (Nat × D)} {lv : List (Nat × V)}, flatL l = true → Fits H F β l lv → Fits H F' β l lv
  | _, _, _, .nil => .nil
  | (i, d) :: l, (j, v) :: lv, h, .cons q t => by
    have h2 : flat d = true ∧ flatL l = true := by simpa [flatL] using h
    exact .cons ⟨q.1, R.flat_ hc d v h2.1 q.2⟩ (fits_flat hc h2.2 t)
def outO (O : List Nat) (l : List (Nat × D)) : Bool := l.all fun p => decide (p.1 ∉ O)
theorem SR.sets : ∀ {l : List (Nat × D)} {lv : List (Nat × V)} {env : Slots} {σ : St}, outO O l = true → SR fs O F env σ H g → Fits H F fs.fr.β l lv → SR fs O F (setsE env l) (setsV σ lv) H g
  | _, _, _, _, _, r, .nil => r
  | (i, d) :: l, (j, v) :: lv, env, σ, ho, r, .cons h t => by
    have e : i = j := h.1
    subst e
    have h2 : i ∉ O ∧ outO O l = true := by
      have := ho
      simp only [outO, List.all_cons, Bool.and_eq_true, decide_eq_true_eq] at this
      exact this
    show SR fs O F (setsE (env.set i (some d)) l) (setsV (σ.set i (some v)) lv) H g
    exact SR.sets (env := env.set i (some d)) (σ := σ.set i (some v)) h2.2 (SR.set r h.2 i (fun _ _ => Iff.rfl) fun z => absurd z h2.1) t
def unpF (O : List Nat) (bd : BX) (ρ : EX) : SX := fun env => M.bnd (ρ env) fun d => M.bnd (M.ofO (bd d)) fun l => if flatL l = true ∧ outO O l = true then M.ret (.nx (setsE env l)) else M.bad
def unpH (O : List Nat) (bd : BX) (ρ : EX) : SX := fun env => M.bnd (ρ (hide O env)) fun d => M.bnd (M.ofO (bd d)) fun l => if outO O l = true then M.ret (.nx (setsE env l)) else M.bad
theorem sv_unpF {bd : BX} (h : PS X st (tAsg te (gV fs.fr bd))) (rd : Red fs.fr te ρ) : SV X fs L O st (unpF O bd ρ) O := by
  refine ⟨fun pins s σ H D I ⟨F, env, g, r, hg⟩ => h.run pins s σ H D I (rd σ H _ env _ g r.er (gotS_exp r hg fun d g' H' F2 v r' kp ex b q hq => ?_))⟩
  obtain ⟨l, hl, hq2⟩ := gotS_ofO hq
  obtain ⟨hc, hq3⟩ := gotS_chk hq2
  exact ⟨F2, d, l, q, hl, fun lv fi => hq3 _ H' _ (r'.sets hc.2 (fits_flat (F := F2) (F' := F.mix F2) (fun _ _ h => h) hc.1 fi)) (Kp.refl _ H') Reg.le.rfl⟩
theorem sv_unpH {bd : BX} (h : PS X st (tAsg te (gV fs.fr bd))) (rd : Red fs.fr te ρ) : SV X fs L O st (unpH O bd ρ) O := by
  refine ⟨fun pins s σ H D I ⟨F, env, g, r, hg⟩ => h.run pins s σ H D I (rd σ H _ _ _ g r.erH (gotS_expH r hg fun d g' H' F2 v r' kp hF q hq => ?_))⟩
  obtain ⟨l, hl, hq2⟩ := gotS_ofO hq
  obtain ⟨hc, hq3⟩ := gotS_chk hq2
  exact ⟨F2, d, l, q, hl, fun lv fi => hq3 _ H' F2 (r'.sets hc fi) (Kp.refl F2 H') Reg.le.rfl⟩
/-! ### name op= e, by ints -/
def intAt (env : Slots) (i : Nat) : Option Int := match env[i]? with
  | some (some (.int x)) => some x
  | _ => none
theorem intAt_some {env : Slots} {i : Nat} {x : Int} (h : intAt env i = some x) : env[i]? = some (some (.int x)) := by
  unfold intAt at h
  split at h
  · rename_i y e; cases h; exact e
  · cases h
theorem SR.plain (r : SR fs O F env σ H g) {i : Nat} {d : D} (he : env[i]? = some (some d)) (c : isC d = false) : ∃ v, σ[i]? = some (some v) ∧ R H F fs.fr.β d v := by
  obtain ⟨v, ev, h1, h2⟩ := r.val i d he
  by_cases hi : i ∈ O
  · exact ⟨v, ev, (Own.plain c).mp (h2 hi)⟩
  · exact ⟨v, ev, h1 hi⟩
def augI (f : Int → Int → Int) (i : Nat) (ρ : EX) : SX := fun env => M.bnd (M.ofO (intAt env i)) fun x => M.bnd (ρ env) fun d => M.bnd (M.ofO (asI d)) fun y => M.ret (.nx (env.set i (some (.int (f x y)))))
theorem asI_some {d : D} {x : Int} (h : asI d = some x) : d = .int x := by
  cases d with
  | int j => cases h; rfl
  | _ => cases h
theorem sv_aug {f : Int → Int → Int} {i : Nat} (h : PS X st (tAug i te (ipI f))) (rd : Red fs.fr te ρ) : SV X fs L O st (augI f i ρ) O := by
  refine ⟨fun pins s σ H D I ⟨F, env, g, r, hg⟩ => h.run pins s σ H D I ?_⟩
  obtain ⟨x, hx, hg2⟩ := gotS_ofO hg
  obtain ⟨v, ev, rv⟩ := r.plain (intAt_some hx) rfl
  refine ⟨v, ev, rd σ H _ env _ g r.er (gotS_exp r hg2 fun d g' H' F2 w r' kp ex b q hq => ?_)⟩
  obtain ⟨y, hy, hq2⟩ := gotS_ofO hq
  rw [asI_some hy] at q
  exact ⟨x, y, r_int rv, r_int q, hq2 _ H' _ (r'.set int_r i (fun _ _ => Iff.rfl) fun _ => rfl) (Kp.refl _ H') Reg.le.rfl⟩
/-! ### for -/
def goS (k : SX) : Fl → M Fl
  | .nx e => k e
  | .ct e => k e
  | .brk e => M.ret (.nx e)
  | .rt d => M.ret (.rt d)
def forGo (O : List Nat) (bd : BX) (ρ : SX) : List D → SX
  | [] => nxS
  | d :: ds => fun env => M.bnd (M.ofO (bd d)) fun l => if outO O l = true then M.bnd (ρ (setsE env l)) (goS (forGo O bd ρ ds)) else M.bad
def forH (O : List Nat) (ι : IX) (bd : BX) (ρ : SX) : SX := fun env => M.bnd (ι (hide O env)) fun ds => forGo O bd ρ ds env
def forF (O : List Nat) (ι : IX) (bd : BX) (ρ : SX) : SX := fun env => M.bnd (ι env) fun ds => if flats ds = true then forGo O bd ρ ds env else M.bad
theorem GotS.imp {fs : Fs} {L O1 : List Nat} {Dn Dn2 : Ends} {o : Out Fl} (h : GotS fs L O1 F H Dn o) (hn : ∀ env g, o = .ok (.nx env) g → ∀ σ' H' F', SR fs O1 F' env σ' H' g → Kp F H H' → (F.le F') → Dn.nx σ' H' → Dn2.nx σ' H')
    (hb : Dn2.bk = Dn.bk) (hc : Dn2.ct = Dn.ct) (hr : Dn2.rt = Dn.rt) : GotS fs L O1 F H Dn2 o := by
  cases o with
  | bad => exact h
  | exn c p g' => exact h
  | ok fl g' =>
    cases fl with
    | nx env' => exact fun σ' H' F' r k hF => hn env' g' rfl σ' H' F' r k hF (h σ' H' F' r k hF)
    | brk env' => exact fun σ' H' F' r k hF => by rw [hb]; exact h σ' H' F' r k hF
    | ct env' => exact fun σ' H' F' r k hF => by rw [hc]; exact h σ' H' F' r k hF
    | rt d => exact fun v H' F' e b q k => by rw [hr]; exact h v H' F' e b q k
/-- one turn of a loop -/
theorem gotS_turn {k : SX} {N : St → Hp → Prop} {o : M Fl} (hg : GotS fs L O F H Dn (M.bnd o (goS k) g))
    (hN : ∀ env' g' σ' H' F', SR fs O F' env' σ' H' g' → Kp F H H' → (F.le F') → GotS fs L O F' H' Dn (k env' g') → N σ' H') : GotS fs O O F H { Dn with nx := N, ct := N, bk := Dn.nx } (o g) := by
  rcases gotS_bnd hg with ⟨fl, g', ho, hg⟩ | ⟨c, p, g', ho, hg⟩
  · rw [ho]
    cases fl with
    | nx env' => exact fun σ' H' F' r' kp hF => hN env' g' σ' H' F' r' kp hF (gotS_later hg kp hF)
    | ct env' => exact fun σ' H' F' r' kp hF => hN env' g' σ' H' F' r' kp hF (gotS_later hg kp hF)
    | brk env' => exact hg
    | rt d => exact hg
  · rw [ho]; exact hg
theorem for_core {J : It} {ds : List D} {bd : BX} {ρb : SX} {F1 : Reg} (r : SR fs O F1 env σ H g) (w : WkOk fs.fr.β F H J ds) (hF : F.le F1) (hfl : flats ds = true ∨ F1.le F)
    (hg : GotS fs L O F1 H Dn (forGo O bd ρb ds env g)) :
    ∃ W : Nat → Nat → St → Hp → Prop, (∃ m, W 0 m σ H) ∧ ∀ i m σ H, W i m σ H →
      (J.stop i H ∧ Dn.nx σ H) ∨ (J.go i H ∧ ∃ N : St → Hp → Prop, (∀ σ' H', N σ' H' → ∃ m', m' < m ∧ W (i + 1) m' σ' H') ∧ ∀ x H', J.yld i H x H' → gV fs.fr bd x σ H' fun σ2 H2 => tS fs O O O ρb { Dn with nx := N, ct := N, bk := Dn.nx } σ2 H2) := by
  obtain ⟨G, Y, wk, hG, hy⟩ := w
  refine for_it wk (fun k σ' H' => ∃ F' env' g', SR fs O F' env' σ' H' g' ∧ Kp F H H' ∧ (F1.le F') ∧ GotS fs L O F' H' Dn (forGo O bd ρb (ds.drop k) env' g')) ⟨F1, env, g, r, Kp.refl F H, Reg.le.rfl, by simpa using hg⟩ (fun i σ' H' _ ⟨F', _, _, _, k, _, _⟩ => hG H' k) ?_ ?_
  · rintro i x σ1 H1 H2 hi ⟨F2, env1, g1, r1, k1, hF1, hg1⟩ y
    obtain ⟨d, hd, ex, hb, q⟩ := hy i H1 F2 x H2 hi k1 (hF.trans hF1) (fun b e => r1.bag.mv e) y
    obtain ⟨r2, k2⟩ := r1.backH (F' := F2) ex (r1.bag.still ex hb)
    have hdr : ds.drop i = d :: ds.drop (i + 1) := by
      have hlt : i < ds.length := hi
      rw [List.drop_eq_getElem_cons hlt]
      rw [List.getElem?_eq_getElem hlt] at hd
      cases hd
      rfl
    rw [hdr] at hg1
    obtain ⟨l, hl, hg2⟩ := gotS_ofO hg1
    obtain ⟨hc, hg3⟩ := gotS_chk hg2
    refine ⟨F2, d, l, q, hl, fun lv fi => ⟨F2, setsE env1 l, g1, r2.sets hc fi, gotS_turn (gotS_later hg3 k2 Reg.le.rfl) fun env' g' σ' H' F' r' kp hF' hgk => ⟨F', env', g', r', (k1.trans (k2.trans kp Reg.le.rfl) (hF.trans hF1)), hF1.trans hF', hgk⟩⟩⟩
  · rintro σ1 H1 ⟨F2, env1, g1, r1, k1, hF1, hg1⟩
    rw [List.drop_length] at hg1
    exact hg1 σ1 H1 F2 r1 (Kp.refl F2 H1) Reg.le.rfl
theorem gotS_itH {ι : IX} {P : It → Hp → Prop} {f : List D → M Fl} (r : SR fs O F env σ H g) (hg : GotS fs L O' F H Dn (M.bnd (ι (hide O env)) f g))
    (k : ∀ ds g' J H' F2, SR fs O F2 env σ H' g' → Kp F H H' → (F.le F2) → WkOk fs.fr.β F2 H' J ds → GotS fs L O' F2 H' Dn (f ds g') → P J H') : GotI fs.fr F σ H P (ι (hide O env) g) := by
  rcases gotS_bnd hg with ⟨ds, g', ho, hg⟩ | ⟨c, p, g', ho, hg⟩
  · rw [ho]
    intro J H' F2 ex b q
    obtain ⟨r', kp⟩ := r.backH ex b
    exact k ds g' J H' F2 r' kp ex.mono q (gotS_later hg kp ex.mono)
  · rw [ho]
    intro H' F2 cls dd ex b q
    exact hg σ H' F2 cls dd (r.ext.trans ex) b q
theorem sv_forH {tg iter : Expr} {body : List Stmt} {ι : IX} {bd : BX} {ρb : SX} (hp : PassesOwn (model X.prog X.w) X.A X.env X.xe) (hc : X.calm = true) (hi : IV X fs.fr tg iter ι) (hb : BV X fs.fr tg bd) (hs : SVs X fs O O body ρb O)
    (hf : ∀ x, foldedSetIterable iter X.env x = pure x := by intro _; rfl) : SV X fs L O (.For tg iter body [] pos) (forH O ι bd ρb) O := by
  refine ⟨fun pins s σ H D I ⟨F, env, g, r, hg⟩ => (ps_for hp hc hi hb hs hf).run pins s σ H D I ⟨hide O env, F, g, r.erH, gotS_itH r hg fun ds g' J H' F2 r' kp hF w hq => ?_⟩⟩
  exact for_core r' w (Reg.le.rfl) (.inr Reg.le.rfl) hq
/-! ### while -/
def whileGo (τ : TX) (ρ : SX) : Nat → SX
  | 0 => fun _ => M.bad
  | n + 1 => fun env => M.bnd (τ env) fun c => if c then M.bnd (ρ env) (goS (whileGo τ ρ n)) else M.ret (.nx env)
open Classical in
noncomputable def whileS (τ : TX) (ρ : SX) : SX := fun env g => if h : ∃ n, whileGo τ ρ n env g ≠ .bad then whileGo τ ρ h.choose env g else .bad
theorem whileGo_mono {τ : TX} {ρ : SX} : ∀ {n m : Nat} {env : Slots} {g : Bag}, n ≤ m → whileGo τ ρ n env g ≠ .bad → whileGo τ ρ m env g = whileGo τ ρ n env g
  | 0, _, _, _, _, h => absurd rfl h
  | n + 1, 0, _, _, hl, _ => absurd hl (by omega)
  | n + 1, m + 1, env, g, hl, h => by
    unfold whileGo M.bnd at h ⊢
    cases hτ : τ env g with
    | bad => rfl
    | exn c p g' => rfl
    | ok c g' =>
      rw [hτ] at h
      cases c with
      | false => rfl
      | true =>
        simp only [if_true] at h ⊢
        cases hρ : ρ env g' with
        | bad => rfl
        | exn c p g2 => rfl
        | ok fl g2 =>
          rw [hρ] at h
          cases fl with
          | nx e => exact whileGo_mono (by omega) h
          | ct e => exact whileGo_mono (by omega) h
          | brk e => rfl
          | rt d => rfl
theorem whileS_of {τ : TX} {ρ : SX} {n : Nat} {env : Slots} {g : Bag} (h : whileGo τ ρ n env g ≠ .bad) : whileS τ ρ env g = whileGo τ ρ n env g := by
  unfold whileS
  rw [dif_pos ⟨n, h⟩]
  have q := (⟨n, h⟩ : ∃ n, whileGo τ ρ n env g ≠ .bad).choose_spec
  rcases Nat.le_total n (⟨n, h⟩ : ∃ n, whileGo τ ρ n env g ≠ .bad).choose with z | z
  · exact whileGo_mono z h
  · exact (whileGo_mono z q).symm
theorem sv_while {c : Expr} {body : List Stmt} {τ : TX} {ρb : SX} (hp : PassesOwn (model X.prog X.w) X.A X.env X.xe) (hc : TV X fs.fr c τ) (hs : SVs X fs O O body ρb O) : SV X fs L O (.While c body [] pos) (whileS τ ρb) O := by
  refine ⟨fun pins s σ H D I ⟨F, env, g, r, hg⟩ => (ps_while hp hc hs).run pins s σ H D I ?_⟩
  refine ⟨fun m σ' H' => ∃ F' env' g', SR fs O F' env' σ' H' g' ∧ GotS fs L O F' H' D (whileGo τ ρb m env' g'), ?_, ?_⟩
  · unfold whileS at hg
    split at hg
    · rename_i h
      exact ⟨h.choose, F, env, g, r, hg⟩
    · exact (show False from hg).elim
  · rintro m σ1 H1 ⟨F1, env1, g1, r1, hg1⟩
    cases m with
    | zero => exact (show False from hg1).elim
    | succ n =>
      refine ⟨env1, _, g1, r1.er, gotS_test r1 hg1 fun d g' H' F2 r' kp le hq => ?_⟩
      cases d with
      | true =>
        rw [if_pos rfl] at hq ⊢
        exact ⟨fun σ' H' => ∃ F' env' g', SR fs O F' env' σ' H' g' ∧ GotS fs L O F' H' D (whileGo τ ρb n env' g'), fun σ' H' w => ⟨n, Nat.lt_succ_self n, w⟩, F2, env1, g', r', gotS_turn hq fun env' g' σ' H' F' r' kp hF hgk => ⟨F', env', g', r', hgk⟩⟩
      | false => exact hq σ1 H' F2 r' (Kp.refl F2 H') Reg.le.rfl
end
end VC

/-! VC11: dicts. -/
namespace VC
open PySem PySem.Spec L2 RZ
open PyProof.Rows hiding St

/-! ### under a lock -/
def dictO : HO → Prop
  | .dK _ => True
  | .dT _ => True
  | _ => False
section
variable {H : Hp} {F : Reg} {β : Bx} {dd : Addr} {u : HO} {od : Obj}
mutual
theorem R.lock (hd : H dd = some u) (hu : dictO u) : ∀ (d : D) (v : V), R H F β d v → R (upd H dd (.frz od u)) F β d v
  | .non, _, h => h
  | .bl _, _, h => h
  | .int _, _, h => h
  | .str _, _, h => h
  | .tup xs, v, h => by
    unfold R at h ⊢
    obtain ⟨a, vs, e, q, r⟩ := h
    exact ⟨a, vs, e, by rw [upd_ne (fun z => by rw [z, hd] at q; cases q; exact hu)]; exact q, Rs.lock hd hu xs vs r⟩
  | .lst xs, v, h => by
    unfold R at h ⊢
    obtain ⟨a, vs, e, f, q, r⟩ := h
    exact ⟨a, vs, e, f, by rw [upd_ne (fun z => by rw [z, hd] at q; cases q; exact hu)]; exact q, Rs.lock hd hu xs vs r⟩
  | .dK ks xs, v, h => by
    unfold R at h ⊢
    obtain ⟨a, kv, e, f, q, ek, r⟩ := h
    refine ⟨a, kv, e, f, ?_, ek, Rs.lock hd hu xs _ r⟩
    by_cases z : a = dd
    · subst z
      rcases q with q | ⟨o, q⟩
      · rw [hd] at q; cases q; exact .inr ⟨od, upd_same⟩
      · rw [hd] at q; cases q; exact hu.elim
    · unfold Rd
      rw [upd_ne z]
      exact q
  | .dT ks xs, v, h => by
    unfold R at h ⊢
    obtain ⟨a, kv, e, f, q, ek, r⟩ := h
    refine ⟨a, kv, e, f, ?_, ek, Rs.lock hd hu xs _ r⟩
    by_cases z : a = dd
    · subst z
      rcases q with q | ⟨o, q⟩
      · rw [hd] at q; cases q; exact .inr ⟨od, upd_same⟩
      · rw [hd] at q; cases q; exact hu.elim
    · unfold Rd
      rw [upd_ne z]
      exact q
  | .bag, _, h => h
  | .cell _, _, h => h
theorem Rs.lock (hd : H dd = some u) (hu : dictO u) : ∀ (ds : List D) (vs : List V), Rs H F β ds vs → Rs (upd H dd (.frz od u)) F β ds vs
  | [], _, h => h
  | d :: ds, vs, h => by
    unfold Rs at h ⊢
    obtain ⟨v, r, e, h1, h2⟩ := h
    exact ⟨v, r, e, R.lock hd hu d v h1, Rs.lock hd hu ds r h2⟩
end
mutual
theorem R.unlock (hd : H dd = some (.frz od u)) : ∀ (d : D) (v : V), R H F β d v → R (upd H dd u) F β d v
  | .non, _, h => h
  | .bl _, _, h => h
  | .int _, _, h => h
  | .str _, _, h => h
  | .tup xs, v, h => by
    unfold R at h ⊢
    obtain ⟨a, vs, e, q, r⟩ := h
    exact ⟨a, vs, e, by rw [upd_ne (fun z => by rw [z, hd] at q; cases q)]; exact q, Rs.unlock hd xs vs r⟩
  | .lst xs, v, h => by
    unfold R at h ⊢
    obtain ⟨a, vs, e, f, q, r⟩ := h
    exact ⟨a, vs, e, f, by rw [upd_ne (fun z => by rw [z, hd] at q; cases q)]; exact q, Rs.unlock hd xs vs r⟩
  | .dK ks xs, v, h => by
    unfold R at h ⊢
    obtain ⟨a, kv, e, f, q, ek, r⟩ := h
    refine ⟨a, kv, e, f, ?_, ek, Rs.unlock hd xs _ r⟩
    by_cases z : a = dd
    · subst z
      rcases q with q | ⟨o, q⟩
      · rw [hd] at q; cases q
      · rw [hd] at q; cases q; exact .inl upd_same
    · unfold Rd
      rw [upd_ne z]
      exact q
  | .dT ks xs, v, h => by
    unfold R at h ⊢
    obtain ⟨a, kv, e, f, q, ek, r⟩ := h
    refine ⟨a, kv, e, f, ?_, ek, Rs.unlock hd xs _ r⟩
    by_cases z : a = dd
    · subst z
      rcases q with q | ⟨o, q⟩
      · rw [hd] at q; cases q
      · rw [hd] at q; cases q; exact .inl upd_same
    · unfold Rd
      rw [upd_ne z]
      exact q
  | .bag, _, h => h
  | .cell _, _, h => h
theorem Rs.unlock (hd : H dd = some (.frz od u)) : ∀ (ds : List D) (vs : List V), Rs H F β ds vs → Rs (upd H dd u) F β ds vs
  | [], _, h => h
  | d :: ds, vs, h => by
    unfold Rs at h ⊢
    obtain ⟨v, r, e, h1, h2⟩ := h
    exact ⟨v, r, e, R.unlock hd d v h1, Rs.unlock hd ds r h2⟩
end
theorem CellAt.nfrz {a : Addr} {c : Cell} (h : CellAt H F β a c) {o : Obj} {u : HO} (e : H a = some (.frz o u)) : False := by
  cases c with
  | lst xs => obtain ⟨vs, h1, _⟩ := h; rw [h1] at e; cases e
  | dK ks xs => obtain ⟨vs, h1, _⟩ := h; rw [h1] at e; cases e
  | dT ks xs => obtain ⟨vs, h1, _⟩ := h; rw [h1] at e; cases e
  | dN ks xs => obtain ⟨es, h1, _⟩ := h; rw [h1] at e; cases e
  | obj C ns xs => obtain ⟨dx, fs, h1, _⟩ := h; rw [h1] at e; cases e
theorem BagOk.ncF {g : Bag} (b : BagOk β F H g) {a : Addr} {o : Obj} {u : HO} (e : H a = some (.frz o u)) : a ∉ F.cs := fun z => by
  obtain ⟨_, _, _, _, q⟩ := b.cellAt z
  exact q.nfrz e
theorem BagOk.over {g : Bag} (b : BagOk β F H g) {o o' : HO} (hd : H dd = some o) (hn : ∀ xs, o ≠ .lst xs) (ht : ∀ xs, o ≠ .tup xs) (nc : dd ∉ F.cs) : BagOk β F (upd H dd o') g where
  live := fun a f z => by
    by_cases e : a = dd
    · rw [e, upd_same] at z; cases z
    · rw [upd_ne e] at z; exact b.live a f z
  at_ := fun x q => ⟨(b.at_ x q).1, by rw [upd_ne (fun e => by have := (b.at_ x q).2; rw [e, hd] at this; exact hn _ (Option.some.inj this))]; exact (b.at_ x q).2⟩
  len := b.len
  nd := b.nd
  nf := b.nf
  cell := fun n a c m q => (b.cell n a c m q).flatT (b.fl c (List.mem_of_getElem? q)) (fun x xs h => by rw [upd_ne (fun z => by rw [z, hd] at h; exact ht xs (Option.some.inj h))]; exact h) (fun _ _ h => h) fun u h => by
    rw [upd_ne (fun z => nc (by rw [← z]; exact List.mem_of_getElem? m))]
    exact h
  fl := b.fl
end
/-! ### the walk over the keys -/
def keysAt (env : Slots) (i : Nat) : Option (List D) := match env[i]? with
  | some (some (.dK ks _)) => some (ks.map kD)
  | some (some (.dT ks _)) => some (ks.map tD)
  | _ => none
def keysI (i : Nat) : IX := fun env => M.ofO (keysAt env i)
theorem kD_r {H : Hp} {F : Reg} {β : Bx} {k : Key} : R H F β (kD k) (kV k) := by
  cases k with
  | inl i => exact int_r
  | inr x => exact str_r
theorem ksD_r {H : Hp} {F : Reg} {β : Bx} : ∀ {ks : List Key}, Rs H F β (ks.map kD) (ks.map kV)
  | [] => .nil
  | k :: ks => .cons kD_r ksD_r
theorem tD_r {H : Hp} {F : Reg} {β : Bx} {k : List Key} {q : Addr} (h : H q = some (.tup (k.map kV))) : R H F β (tD k) (.ref q) := by
  unfold tD R
  exact ⟨q, _, rfl, h, ksD_r⟩
theorem wk_keys {β : Bx} {F : Reg} {H : Hp} {d : Addr} {o : Obj} {kv : List (Key × V)} (f : F.fz d) (h : H d = some (.frz o (.dK kv))) : WkOk β F H (Itk d o kv) ((kv.map (·.1)).map kD) := by
  refine ⟨_, _, by rw [List.length_map, List.length_map]; exact walk_keys, fun H1 k => k.reg d _ f h, fun i H1 F1 x H2 hi k hF hb y => ?_⟩
  obtain ⟨rfl, ke, v, e, rfl⟩ := y
  exact ⟨kD ke, by simp [e], Ext.refl _ _ _, fun _ _ => rfl, kD_r⟩
theorem wk_keysT {β : Bx} {F : Reg} {H : Hp} {d : Addr} {o : Obj} {kv : List (List Key × V)} (f : F.fz d) (h : H d = some (.frz o (.dT kv))) : WkOk β F H (Itkt d o kv) ((kv.map (·.1)).map tD) := by
  refine ⟨_, _, by rw [List.length_map, List.length_map]; exact walk_keysT, fun H1 k => k.reg d _ f h, fun i H1 F1 x H2 hi k hF hb y => ?_⟩
  obtain ⟨rfl, ke, v, q, e, rfl, hq⟩ := y
  exact ⟨tD ke, by simp [e], Ext.refl _ _ _, fun _ _ => rfl, tD_r hq⟩
/-- what the slot i holds is a dict, at d -/
theorem keysAt_some {env : Slots} {i : Nat} {ds : List D} {v : V} {H : Hp} {F : Reg} {β : Bx} (h : keysAt env i = some ds) (q : ∀ d, env[i]? = some (some d) → R H F β d v) :
    ∃ d u, v = .ref d ∧ F.fz d ∧ Rd H d u ∧ dictO u ∧ ((∃ kv, u = .dK kv ∧ ds = (kv.map (·.1)).map kD) ∨ ∃ kv, u = .dT kv ∧ ds = (kv.map (·.1)).map tD) := by
  unfold keysAt at h
  split at h
  · rename_i ks xs e
    cases h
    obtain ⟨a, kv, rfl, f, h1, rfl, r⟩ := r_dK (q _ e)
    exact ⟨a, _, rfl, f, h1, trivial, .inl ⟨kv, rfl, rfl⟩⟩
  · rename_i ks xs e
    cases h
    obtain ⟨a, kv, rfl, f, h1, rfl, r⟩ := r_dT (q _ e)
    exact ⟨a, _, rfl, f, h1, trivial, .inr ⟨kv, rfl, rfl⟩⟩
  · cases h
theorem keysAt_d {env : Slots} {i : Nat} {ds : List D} (h : keysAt env i = some ds) : ∃ d, env[i]? = some (some d) ∧ isC d = true := by
  unfold keysAt at h
  split at h
  · rename_i ks xs e; exact ⟨_, e, rfl⟩
  · rename_i ks xs e; exact ⟨_, e, rfl⟩
  · cases h
section
variable {X : Cx} {fr : Fr} {pos : Pos} {e : Expr} {es : List Expr} {ρ : EX} {tg : Expr}
theorem keysI_wk {i : Nat} {σ : St} {H : Hp} {P : It → Hp → Prop} {env : Slots} {F : Reg} {g : Bag} {d : Addr} {u : HO} {o : Obj} (b : BagOk fr.β F H g) (hd : H d = some (.frz o u)) (f : F.fz d) (es : σ[i]? = some (some (.ref d))) {ds : List D} (hk : keysAt env i = some ds)
    (hu : (∃ kv, u = .dK kv ∧ ds = (kv.map (·.1)).map kD) ∨ ∃ kv, u = .dT kv ∧ ds = (kv.map (·.1)).map tD) (hg : GotI fr F σ H P (keysI i env g)) : iKeys (tVar i) σ H P := by
  unfold keysI at hg
  rw [hk] at hg
  have hg : ∀ J H' F', Ext fr.β F H F' H' → BagOk fr.β F' H' g → WkOk fr.β F' H' J ds → P J H' := hg
  refine ⟨.ref d, es, d, o, rfl, ?_⟩
  rcases hu with ⟨kv, rfl, rfl⟩ | ⟨kv, rfl, rfl⟩
  · exact .inl ⟨kv, hd, hg _ H F (Ext.refl _ _ _) b (wk_keys f hd)⟩
  · exact .inr ⟨kv, hd, hg _ H F (Ext.refl _ _ _) b (wk_keysT f hd)⟩
theorem ER.lock {env : Slots} {σ : St} {H : Hp} {F : Reg} {g : Bag} (r : ER fr F env σ H g) {d : Addr} {u : HO} {od : Obj} (hd : H d = some u) (hu : dictO u) (nc : d ∉ F.cs) : ER fr F env σ (upd H d (.frz od u)) g :=
  ⟨r.len, fun i x e => let ⟨v, ev, q⟩ := r.val i x e; ⟨v, ev, R.lock hd hu x v q⟩, r.bag.over hd (fun xs z => by rw [z] at hu; exact hu) (fun xs z => by rw [z] at hu; exact hu) nc⟩
theorem Ext.lock {β : Bx} {H H' : Hp} {F F' : Reg} {d : Addr} {u : HO} {od : Obj} (hd : H d = some u) (e : Ext β F (upd H d (.frz od u)) F' H') : Ext β F H F' (upd H' d u) :=
  have back : ∀ a, upd H d (.frz od u) a = none → H a = none := fun a z => by
    by_cases h : a = d
    · rw [h, upd_same] at z; cases z
    · rw [upd_ne h] at z; exact z
  ⟨e.mono, fun a f => (e.newf a f).imp id (back a), fun a f => (e.newc a f).imp id (back a), fun a o h n m => by
    by_cases z : a = d
    · rw [z, hd] at h; cases h; rw [z]; exact upd_same
    · rw [upd_ne z]; exact e.keep a o (by rw [upd_ne z]; exact h) n m, fun a h => by
    by_cases z : a = d
    · rw [z, upd_same] at h; cases h
    · rw [upd_ne z] at h
      have q := e.there a h
      rw [upd_ne z] at q
      exact q⟩
/-- the comprehension over the keys of the slot i -/
theorem ev_keys {i : Nat} {bd : BX} {τ : TX} {vs : List Nat} (h : PE X e (tLc (iKeys (tVar i)) (gV fr bd) (tT fr τ) (tE fr ρ) vs)) (hvs : Sub vs bd) : EV X fr e (lcE (keysI i) bd τ ρ vs) := by
  refine ⟨fun pins s σ H Q I ⟨env, F, g, r, hg⟩ => ?_⟩
  have hk : ∃ ds, keysAt env i = some ds := by
    unfold lcE keysI at hg
    cases q : keysAt env i with
    | none => rw [q] at hg; exact hg.elim
    | some ds => exact ⟨ds, rfl⟩
  obtain ⟨ds, hk⟩ := hk
  obtain ⟨x, ex, _⟩ := keysAt_d hk
  obtain ⟨v, ev, _⟩ := r.val i x ex
  obtain ⟨d, u, rfl, f, hr, hdo, hu⟩ := keysAt_some hk (fun y ey => by
    obtain ⟨v2, ev2, q⟩ := r.val i y ey
    rw [ev] at ev2
    cases ev2
    exact q)
  rcases hr with hd | ⟨o, hd⟩
  · refine (pe_lock h).run pins s σ H Q I ⟨d, u, hd, by unfold Mut; cases u <;> first | trivial | exact hdo, fun od => ?_⟩
    have r1 := r.lock (od := od) hd hdo (r.bag.nc f)
    refine keysI_wk (P := lcP (gV fr bd) (tT fr τ) (tE fr ρ) vs σ fun v H' => H' d = some (.frz od u) ∧ Q v (upd H' d u)) r1.bag upd_same f ev hk hu (lc_gotI (ι := keysI i) (τ := τ) (ρ := ρ) r1 hvs (GotN.of ?_))
    cases ho : lcE (keysI i) bd τ ρ vs env g with
    | bad => rw [ho] at hg; exact hg
    | ok y g' =>
      rw [ho] at hg
      intro w H' F' ex1 b1 q1
      have hd' : H' d = some (.frz od u) := ex1.keep d _ upd_same (r1.bag.ne (.inl f)) (r1.bag.nc f)
      exact ⟨hd', hg w _ F' (ex1.lock hd) (b1.over hd' (fun xs z => by cases z) (fun xs z => by cases z) (b1.nc (ex1.mono.fz d f))) (R.unlock hd' y w q1)⟩
    | exn c p g' =>
      exfalso
      unfold lcE at ho
      exact bnd_noexn (fun c p g' z => by unfold keysI at z; rw [hk] at z; cases z) (fun a g1 c p g' z => by
        by_cases hl : a.length ≤ line
        · rw [if_pos hl] at z
          exact bnd_noexn (fun c p g' z => lcGo_noexn _ _ _ _ _ _ _ _ _ z) (fun _ _ _ _ _ z => by cases z) c p g' z
        · rw [if_neg hl] at z; cases z) c p g' ho
  · exact h.run pins s σ H Q I (keysI_wk (P := lcP (gV fr bd) (tT fr τ) (tE fr ρ) vs σ Q) r.bag hd f ev hk hu (lc_gotI r hvs (GotN.of hg)))
end
end VC

/-! VC12: for over a dict; dict reads and writes; a thing handed on. -/
namespace VC
open PySem PySem.Spec L2 RZ
open PyProof.Rows hiding St

section
variable {X : Cx} {fs : Fs} {L O O1 O2 O' : List Nat} {st : Stmt} {rest : List Stmt} {pos : Pos} {e : Expr} {σ : St} {H : Hp} {F : Reg} {env : Slots} {g : Bag} {Dn : Ends} {te tk : TE} {ρ κ : EX}
theorem Own.lock {d : D} {v : V} {dd : Addr} {u : HO} {od : Obj} (h : Own fs H F d v) (hd : H dd = some u) (hu : dictO u) (hn : ∀ a, v = .ref a → isC d = true → a ≠ dd) : Own fs (upd H dd (.frz od u)) F d v := by
  cases d with
  | lst xs =>
    obtain ⟨a, vs, rfl, nf, n0, ha, q⟩ := h
    exact ⟨a, vs, rfl, nf, n0, by rw [upd_ne (hn a rfl rfl)]; exact ha, Rs.lock hd hu _ _ q⟩
  | dK ks xs =>
    obtain ⟨a, kv, rfl, nf, n0, ha, ek, q⟩ := h
    exact ⟨a, kv, rfl, nf, n0, by rw [upd_ne (hn a rfl rfl)]; exact ha, ek, Rs.lock hd hu _ _ q⟩
  | dT ks xs =>
    obtain ⟨a, kv, rfl, nf, n0, ha, ek, q⟩ := h
    exact ⟨a, kv, rfl, nf, n0, by rw [upd_ne (hn a rfl rfl)]; exact ha, ek, Rs.lock hd hu _ _ q⟩
  | _ => exact R.lock hd hu _ _ h
theorem Own.unlock {d : D} {v : V} {dd : Addr} {u : HO} {od : Obj} (h : Own fs H F d v) (hd : H dd = some (.frz od u)) : Own fs (upd H dd u) F d v := by
  cases d with
  | lst xs =>
    obtain ⟨a, vs, rfl, nf, n0, ha, q⟩ := h
    exact ⟨a, vs, rfl, nf, n0, by rw [upd_ne (fun z => by rw [z, hd] at ha; cases ha)]; exact ha, Rs.unlock hd _ _ q⟩
  | dK ks xs =>
    obtain ⟨a, kv, rfl, nf, n0, ha, ek, q⟩ := h
    exact ⟨a, kv, rfl, nf, n0, by rw [upd_ne (fun z => by rw [z, hd] at ha; cases ha)]; exact ha, ek, Rs.unlock hd _ _ q⟩
  | dT ks xs =>
    obtain ⟨a, kv, rfl, nf, n0, ha, ek, q⟩ := h
    exact ⟨a, kv, rfl, nf, n0, by rw [upd_ne (fun z => by rw [z, hd] at ha; cases ha)]; exact ha, ek, Rs.unlock hd _ _ q⟩
  | _ => exact R.unlock hd _ _ h
theorem SR.lock (r : SR fs O F env σ H g) {dd : Addr} {u : HO} {od : Obj} (f : F.fz dd) (hd : H dd = some u) (hu : dictO u) (n0 : fs.H0 dd = none) : SR fs O F env σ (upd H dd (.frz od u)) g := by
  refine ⟨r.len, fun i d e => ?_, r.sep, r.bag.over hd (fun xs z => by rw [z] at hu; exact hu) (fun xs z => by rw [z] at hu; exact hu) (r.bag.nc f), r.ext.over n0, r.nb⟩
  obtain ⟨v, ev, h1, h2⟩ := r.val i d e
  refine ⟨v, ev, fun hi => R.lock hd hu d v (h1 hi), fun hi => (h2 hi).lock hd hu fun a ea c z => ?_⟩
  obtain ⟨b, o, eb, nf, _⟩ := (h2 hi).at_ c
  rw [ea] at eb
  cases eb
  exact nf (by rw [z]; exact .inl f)
theorem Ext.unlock2 {β : Bx} {F0 F : Reg} {H0 : Hp} {dd : Addr} {u : HO} (e : Ext β F0 H0 F H) (n0 : H0 dd = none) : Ext β F0 H0 F (upd H dd u) := e.over n0
theorem SR.unlock (r : SR fs O F env σ H g) {dd : Addr} {u : HO} {od : Obj} (hd : H dd = some (.frz od u)) (n0 : fs.H0 dd = none) : SR fs O F env σ (upd H dd u) g := by
  refine ⟨r.len, fun i d e => ?_, r.sep, r.bag.over hd (fun xs z => by cases z) (fun xs z => by cases z) (r.bag.ncF hd), r.ext.unlock2 n0, r.nb⟩
  obtain ⟨v, ev, h1, h2⟩ := r.val i d e
  exact ⟨v, ev, fun hi => R.unlock hd d v (h1 hi), fun hi => (h2 hi).unlock hd⟩
/-- the walk over the keys of the dict that slot i alone holds; held still from here on -/
def forK (O : List Nat) (i : Nat) (bd : BX) (ρ : SX) : SX := fun env => M.bnd (M.ofO (keysAt env i)) fun ds => forGo O bd ρ ds env
theorem unlockKp {F : Reg} {H H' : Hp} {dd : Addr} {u : HO} {od : Obj} (hd : H dd = some u) (hu : dictO u) (k : Kp F (upd H dd (.frz od u)) H') : Kp F H (upd H' dd u) :=
  ⟨fun a xs h => by
    have ne : a ≠ dd := fun z => by rw [z, hd] at h; cases h; exact hu
    rw [upd_ne ne]
    exact k.tup a xs (by rw [upd_ne ne]; exact h), fun a o f h => by
    by_cases z : a = dd
    · rw [z, hd] at h; cases h; rw [z]; exact upd_same
    · rw [upd_ne z]; exact k.reg a o f (by rw [upd_ne z]; exact h)⟩
theorem sv_forK {i : Nat} {tg iter : Expr} {body : List Stmt} {bd : BX} {ρb : SX} (hp : PassesOwn (model X.prog X.w) X.A X.env X.xe) (hc : X.calm = true) (hv : PE X iter (tVar i)) (hb : BV X fs.fr tg bd) (hs : SVs X fs O1 O1 body ρb O1)
    (hi : i ∈ O) (hO : ∀ j, j ∈ O1 → j ∈ O ∧ j ≠ i)
    (hf : ∀ x, foldedSetIterable iter X.env x = pure x := by intro _; rfl) : SV X fs L O (.For tg iter body [] pos) (forK O1 i bd ρb) O1 := by
  refine ⟨fun pins s σ H D I ⟨F, env, g, r, hg⟩ => ?_⟩
  obtain ⟨ds, hk, hg⟩ := gotS_ofO hg
  obtain ⟨x, ex, cx⟩ := keysAt_d hk
  obtain ⟨v0, ev0, _, ho⟩ := r.val i x ex
  obtain ⟨a0, o0, rfl, nf0, n00, hH0, _⟩ := (ho hi).at_ cx
  have r1 := r.freeze (O' := O1) (fun j h => (hO j h).1)
  have hi1 : i ∉ O1 := fun h => (hO i h).2 rfl
  obtain ⟨v, ev, hR, _⟩ := r1.val i x ex
  obtain ⟨d, u, rfl, f, hr, hdo, hu⟩ := keysAt_some hk (fun y ey => by rw [ex] at ey; cases ey; exact hR hi1)
  rw [ev0] at ev
  cases ev
  have hd : H a0 = some u := by
    rcases hr with hd | ⟨o, hd⟩
    · exact hd
    · exfalso
      have := ho hi
      cases x with
      | lst xs => unfold keysAt at hk; rw [ex] at hk; cases hk
      | dK ks xs => obtain ⟨a, kv, e, _, _, ha, _⟩ := this; cases e; rw [hd] at ha; cases ha
      | dT ks xs => obtain ⟨a, kv, e, _, _, ha, _⟩ := this; cases e; rw [hd] at ha; cases ha
      | _ => cases cx
  refine (ps_lock (ps_for hp hc (pi_keys hv) hb hs hf)).run pins s σ H D I ⟨a0, u, hd, by unfold Mut; cases u <;> first | trivial | exact hdo, fun od => ?_⟩
  have r2 := r1.lock (od := od) f hd hdo n00
  refine keysI_wk (fr := fs.fr) (env := env) (g := g) r2.bag upd_same f ev0 hk hu ?_
  unfold keysI
  rw [hk]
  intro J H' F' ex2 b2 wk
  obtain ⟨r3, k3⟩ := r2.backH ex2 b2
  refine for_core (L := L) r3 wk (Reg.le.rfl) (.inr Reg.le.rfl) ?_
  have fin : ∀ {H2 : Hp} {F2 : Reg}, Kp F' H' H2 → (F'.le F2) → H2 a0 = some (.frz od u) := fun k hF => k.reg a0 _ (ex2.mono.fz a0 f) (k3.reg a0 _ f upd_same)
  have hg2 := gotS_later hg (Kp.refl F H) (F1 := F.or (held (O.filter (· ∉ O1)) env σ)) (.or _ _)
  cases ho2 : forGo O1 bd ρb ds env g with
  | bad => rw [ho2] at hg2; exact hg2
  | exn c p g' => rw [ho2] at hg2; exact hg2
  | ok fl g' =>
    rw [ho2] at hg2
    cases fl with
    | nx env' => exact fun σ' H2 F2 r' k hF => ⟨fin k hF, hg2 σ' _ F2 (r'.unlock (fin k hF) n00) (unlockKp hd hdo (k3.trans k ex2.mono)) (ex2.mono.trans hF)⟩
    | brk env' => exact fun σ' H2 F2 r' k hF => ⟨fin k hF, hg2 σ' _ F2 (r'.unlock (fin k hF) n00) (unlockKp hd hdo (k3.trans k ex2.mono)) (ex2.mono.trans hF)⟩
    | ct env' => exact fun σ' H2 F2 r' k hF => ⟨fin k hF, hg2 σ' _ F2 (r'.unlock (fin k hF) n00) (unlockKp hd hdo (k3.trans k ex2.mono)) (ex2.mono.trans hF)⟩
    | rt y => exact fun v H2 F2 e b q k => ⟨k.reg a0 _ (ex2.mono.fz a0 f) (k3.reg a0 _ f upd_same), hg2 v _ F2 (e.unlock2 n00) (b.over (k.reg a0 _ (ex2.mono.fz a0 f) (k3.reg a0 _ f upd_same)) (fun xs z => by cases z) (fun xs z => by cases z) (b.ncF (k.reg a0 _ (ex2.mono.fz a0 f) (k3.reg a0 _ f upd_same)))) (R.unlock (k.reg a0 _ (ex2.mono.fz a0 f) (k3.reg a0 _ f upd_same)) y v q) (unlockKp hd hdo (k3.trans k ex2.mono))⟩
end
end VC

/-! VC13: built-ins. -/
namespace VC
open PySem PySem.Spec L2 RZ
open PyProof.Rows hiding St

def intsOf : List D → Option (List Int)
  | [] => some []
  | .int i :: r => (intsOf r).map (i :: ·)
  | _ => none
theorem intsOf_some : ∀ {ds : List D} {ns : List Int}, intsOf ds = some ns → ds = ns.map D.int
  | [], ns, h => by cases h; rfl
  | .int i :: r, ns, h => by
    simp only [intsOf, Option.map_eq_some_iff] at h
    obtain ⟨m, h, rfl⟩ := h
    rw [List.map_cons, ← intsOf_some h]
  | .non :: _, _, h => by cases h
  | .bl _ :: _, _, h => by cases h
  | .str _ :: _, _, h => by cases h
  | .tup _ :: _, _, h => by cases h
  | .lst _ :: _, _, h => by cases h
  | .dK _ _ :: _, _, h => by cases h
  | .dT _ _ :: _, _, h => by cases h
  | .bag :: _, _, h => by cases h
theorem intsOf_map : ∀ ns : List Int, intsOf (ns.map D.int) = some ns
  | [] => rfl
  | i :: r => by simp [intsOf, intsOf_map r]
def blsOf : List D → Option (List Bool)
  | [] => some []
  | .bl i :: r => (blsOf r).map (i :: ·)
  | _ => none
theorem blsOf_some : ∀ {ds : List D} {ns : List Bool}, blsOf ds = some ns → ds = ns.map D.bl
  | [], ns, h => by cases h; rfl
  | .bl i :: r, ns, h => by
    simp only [blsOf, Option.map_eq_some_iff] at h
    obtain ⟨m, h, rfl⟩ := h
    rw [List.map_cons, ← blsOf_some h]
  | .non :: _, _, h => by cases h
  | .int _ :: _, _, h => by cases h
  | .str _ :: _, _, h => by cases h
  | .tup _ :: _, _, h => by cases h
  | .lst _ :: _, _, h => by cases h
  | .dK _ _ :: _, _, h => by cases h
  | .dT _ _ :: _, _, h => by cases h
  | .bag :: _, _, h => by cases h
theorem blsOf_map : ∀ ns : List Bool, blsOf (ns.map D.bl) = some ns
  | [] => rfl
  | i :: r => by simp [blsOf, blsOf_map r]
section
variable {X : Cx} {fr : Fr} {H : Hp} {F : Reg} {β : Bx}
theorem rs1 {d : D} {xs : List V} (h : Rs H F β [d] xs) : ∃ v, xs = [v] ∧ R H F β d v := by
  obtain ⟨v, r, rfl, h1, h2⟩ := h.uncons
  unfold Rs at h2
  subst h2
  exact ⟨v, rfl, h1⟩
theorem rs2 {d e : D} {xs : List V} (h : Rs H F β [d, e] xs) : ∃ v w, xs = [v, w] ∧ R H F β d v ∧ R H F β e w := by
  obtain ⟨v, r, rfl, h1, h2⟩ := h.uncons
  obtain ⟨w, rfl, h3⟩ := rs1 h2
  exact ⟨v, w, rfl, h1, h3⟩
def lenL : List D → Option D
  | [.tup xs] => some (.int xs.length)
  | [.lst xs] => some (.int xs.length)
  | [.str x] => if x.length ≤ line then some (.int x.length) else none
  | _ => none
theorem o_len : OpL X fr (.builtin "len") lenL := ⟨fun H F g xs ds d b rs e => by
  unfold lenL at e
  split at e
  · cases e
    obtain ⟨v, rfl, h⟩ := rs1 rs
    obtain ⟨a, vs, rfl, h1, q⟩ := r_tup h
    exact ⟨_, call_len, _, _, rfl, .inr ⟨vs, SqT.of h1, rfl⟩, by rw [← q.length]; exact hit_here b int_r⟩
  · cases e
    obtain ⟨v, rfl, h⟩ := rs1 rs
    obtain ⟨a, vs, rfl, f, h1, q⟩ := r_lst h
    exact ⟨_, call_len, _, _, rfl, .inl ⟨vs, SqL.of h1, rfl⟩, by rw [← q.length]; exact hit_here b int_r⟩
  · split at e
    · rename_i hl
      cases e
      obtain ⟨v, rfl, h⟩ := rs1 rs
      rw [r_str h]
      exact ⟨_, call_len, _, _, rfl, ⟨by rw [line_eq]; exact hl, rfl⟩, hit_here b int_r⟩
    · cases e
  · cases e⟩
def intL : List D → Option D
  | [.int i] => some (.int i)
  | [.bl k] => some (.int (if k then 1 else 0))
  | _ => none
theorem o_int : OpL X fr (.type "int") intL := ⟨fun H F g xs ds d b rs e => by
  unfold intL at e
  split at e
  · cases e
    obtain ⟨v, rfl, h⟩ := rs1 rs
    rw [r_int h]
    exact ⟨_, call_int1, .inl ⟨_, rfl, hit_here b int_r⟩⟩
  · cases e
    obtain ⟨v, rfl, h⟩ := rs1 rs
    rw [r_bl h]
    exact ⟨_, call_int1, .inr ⟨_, rfl, hit_here b int_r⟩⟩
  · cases e⟩
def boolL : List D → Option D
  | [.int i] => some (.bl (i != 0))
  | [.bl k] => some (.bl k)
  | _ => none
theorem o_bool : OpL X fr (.type "bool") boolL := ⟨fun H F g xs ds d b rs e => by
  unfold boolL at e
  split at e
  · cases e
    obtain ⟨v, rfl, h⟩ := rs1 rs
    rw [r_int h]
    exact ⟨_, call_bool1, .inl ⟨_, rfl, hit_here b bl_r⟩⟩
  · cases e
    obtain ⟨v, rfl, h⟩ := rs1 rs
    rw [r_bl h]
    exact ⟨_, call_bool1, .inr ⟨_, rfl, hit_here b bl_r⟩⟩
  · cases e⟩
def absL : List D → Option D
  | [.int i] => some (.int (if i < 0 then -i else i))
  | _ => none
theorem o_abs : OpL X fr (.builtin "abs") absL := ⟨fun H F g xs ds d b rs e => by
  unfold absL at e
  split at e
  · cases e
    obtain ⟨v, rfl, h⟩ := rs1 rs
    rw [r_int h]
    exact ⟨_, call_abs, _, rfl, hit_here b int_r⟩
  · cases e⟩
/-- the best of some ints -/
theorem foldl_max_mem : ∀ (ns : List Int) (n : Int), ns.foldl max n ∈ n :: ns ∧ ∀ y ∈ n :: ns, y ≤ ns.foldl max n
  | [], n => ⟨List.mem_singleton.mpr rfl, fun y hy => by rw [List.mem_singleton.mp hy]; exact Int.le_refl _⟩
  | k :: r, n => by
    obtain ⟨h1, h2⟩ := foldl_max_mem r (max n k)
    refine ⟨?_, fun y hy => ?_⟩
    · rw [List.foldl_cons]
      rcases List.mem_cons.mp h1 with e | h
      · rw [e]
        rcases Int.le_total n k with q | q
        · rw [Int.max_eq_right q]; exact List.mem_cons_of_mem _ List.mem_cons_self
        · rw [Int.max_eq_left q]; exact List.mem_cons_self
      · exact List.mem_cons_of_mem _ (List.mem_cons_of_mem _ h)
    · rw [List.foldl_cons]
      have hm := h2 (max n k) List.mem_cons_self
      rcases List.mem_cons.mp hy with e | hy
      · rw [e]; omega
      · rcases List.mem_cons.mp hy with e | hy
        · rw [e]; omega
        · exact h2 y (List.mem_cons_of_mem _ hy)
theorem foldl_max_uniq {ns : List Int} {n m : Int} (h1 : m ∈ n :: ns) (h2 : ∀ y ∈ n :: ns, y ≤ m) : m = ns.foldl max n := by
  obtain ⟨q1, q2⟩ := foldl_max_mem ns n
  have a := h2 _ q1
  have b := q2 _ h1
  omega
def maxL : List D → Option D
  | [.int i, .int j] => some (.int (max i j))
  | [.lst xs] => (intsOf xs).bind fun ns => match ns with
    | n :: r => some (.int (r.foldl max n))
    | [] => none
  | _ => none
theorem o_max (hc : X.calm = true) : OpL X fr (.builtin "max") maxL := ⟨fun H F g xs ds d b rs e => by
  unfold maxL at e
  split at e
  · rename_i i j
    cases e
    obtain ⟨v, w, rfl, h1, h2⟩ := rs2 rs
    rw [r_int h1, r_int h2]
    refine ⟨_, call_max2 hc, _, _, rfl, ?_⟩
    rw [show (if j > i then j else i) = max i j by split <;> omega]
    exact hit_here b int_r
  · rename_i xs
    obtain ⟨ns, h, e⟩ := Option.bind_eq_some_iff.mp e
    obtain ⟨v, rfl, h1⟩ := rs1 rs
    obtain ⟨a, vs, rfl, f, h1, q⟩ := r_lst h1
    cases ns with
    | nil => cases e
    | cons n r =>
      cases e
      rw [intsOf_some h] at q
      rw [rs_ints q] at h1
      exact ⟨_, cr_max hc, a, n :: r, rfl, SqL.of h1, Nat.zero_lt_succ _, fun m hm hle => by rw [foldl_max_uniq hm hle]; exact hit_here b int_r⟩
  · cases e⟩
def sumL : List D → Option D
  | [.lst xs] => (intsOf xs).map fun ns => .int ns.sum
  | _ => none
theorem o_sum (hc : X.calm = true) : OpL X fr (.builtin "sum") sumL := ⟨fun H F g xs ds d b rs e => by
  unfold sumL at e
  split at e
  · obtain ⟨ns, h, e⟩ := Option.map_eq_some_iff.mp e
    cases e
    obtain ⟨v, rfl, h1⟩ := rs1 rs
    obtain ⟨a, vs, rfl, f, h1, q⟩ := r_lst h1
    rw [intsOf_some h] at q
    rw [rs_ints q] at h1
    exact ⟨_, cr_sum hc, a, ns, rfl, SqL.of h1, hit_here b int_r⟩
  · cases e⟩
def allL : List D → Option D
  | [.lst xs] => (blsOf xs).map fun ns => .bl (ns.all id)
  | _ => none
def anyL : List D → Option D
  | [.lst xs] => (blsOf xs).map fun ns => .bl (ns.any id)
  | _ => none
theorem o_all (hc : X.calm = true) : OpL X fr (.builtin "all") allL := ⟨fun H F g xs ds d b rs e => by
  unfold allL at e
  split at e
  · obtain ⟨ns, h, e⟩ := Option.map_eq_some_iff.mp e
    cases e
    obtain ⟨v, rfl, h1⟩ := rs1 rs
    obtain ⟨a, vs, rfl, f, h1, q⟩ := r_lst h1
    rw [blsOf_some h] at q
    rw [rs_bls q] at h1
    exact ⟨_, cr_all hc, a, ns, rfl, SqL.of h1, hit_here b bl_r⟩
  · cases e⟩
theorem o_any (hc : X.calm = true) : OpL X fr (.builtin "any") anyL := ⟨fun H F g xs ds d b rs e => by
  unfold anyL at e
  split at e
  · obtain ⟨ns, h, e⟩ := Option.map_eq_some_iff.mp e
    cases e
    obtain ⟨v, rfl, h1⟩ := rs1 rs
    obtain ⟨a, vs, rfl, f, h1, q⟩ := r_lst h1
    rw [blsOf_some h] at q
    rw [rs_bls q] at h1
    exact ⟨_, cr_any hc, a, ns, rfl, SqL.of h1, hit_here b bl_r⟩
  · cases e⟩
def tupL : List D → Option D
  | [.lst xs] => some (.tup xs)
  | [.tup xs] => some (.tup xs)
  | _ => none
theorem o_tup : OpL X fr (.type "tuple") tupL := ⟨fun H F g xs ds d b rs e => by
  unfold tupL at e
  split at e
  · cases e
    obtain ⟨v, rfl, h1⟩ := rs1 rs
    obtain ⟨a, vs, rfl, f, h1, q⟩ := r_lst h1
    exact ⟨_, call_tuple_of, a, vs, rfl, .inl ⟨SqL.of h1, fun l hl => hit_tup b q hl⟩⟩
  · cases e
    obtain ⟨v, rfl, h1⟩ := rs1 rs
    obtain ⟨a, vs, rfl, h2, q⟩ := r_tup h1
    exact ⟨_, call_tuple_of, a, vs, rfl, .inr ⟨SqT.of h2, hit_here b h1⟩⟩
  · cases e⟩
def listL : List D → Option D
  | [.lst xs] => some (.lst xs)
  | [.tup xs] => some (.lst xs)
  | _ => none
theorem o_list : OpLN X fr (.type "list") listL := ⟨fun H F g xs ds d b rs e => by
  unfold listL at e
  split at e
  · cases e
    obtain ⟨v, rfl, h1⟩ := rs1 rs
    obtain ⟨a, vs, rfl, f, h1, q⟩ := r_lst h1
    exact ⟨_, call_list_of, a, vs, rfl, .inl (SqL.of h1), fun l hl => hitN_lst b q hl⟩
  · cases e
    obtain ⟨v, rfl, h1⟩ := rs1 rs
    obtain ⟨a, vs, rfl, h2, q⟩ := r_tup h1
    exact ⟨_, call_list_of, a, vs, rfl, .inr (SqT.of h2), fun l hl => hitN_lst b q hl⟩
  · cases e⟩

/-! ### isinstance -/
def tyN : D → String
  | .non => "NoneType"
  | .bl _ => "bool"
  | .int _ => "int"
  | .str _ => "str"
  | .tup _ => "tuple"
  | .lst _ => "list"
  | .dK _ _ => "dict"
  | .dT _ _ => "dict"
  | .bag => "list"
  | .cell _ => "list"
def isaB (T : String) (d : D) : Bool := tyN d == T || (tyN d == "bool" && T == "int")
def isTy (T : String) : Prop := T = "bool" ∨ T = "int" ∨ T = "str" ∨ T = "tuple" ∨ T = "list" ∨ T = "dict"
theorem kitB_of {T : String} (hT : isTy T) (d : D) : kitB (tyN d) T = some (isaB T d) := by
  have hd : tyN d = "NoneType" ∨ tyN d = "bool" ∨ tyN d = "int" ∨ tyN d = "str" ∨ tyN d = "tuple" ∨ tyN d = "list" ∨ tyN d = "dict" := by
    cases d <;> simp [tyN]
  unfold isaB
  rcases hT with rfl | rfl | rfl | rfl | rfl | rfl <;> rcases hd with e | e | e | e | e | e | e <;> rw [e] <;> decide +kernel
theorem tyX_of {K : PySem.W.Frag} {g : Bag} {d : D} {v : V} (b : BagOk β F H g) (h : R H F β d v) (nd : ∀ ks xs, d ≠ .dT ks xs) (nc : ∀ n, d ≠ .cell n) : TyX K H v (.type (tyN d)) := by
  cases d with
  | non => rw [r_non h]; exact .base .non
  | bl x => rw [r_bl h]; exact .base (.bl x)
  | int x => rw [r_int h]; exact .base (.int x)
  | str x => rw [r_str h]; exact .base (.str x)
  | tup xs => obtain ⟨a, vs, rfl, h2, q⟩ := r_tup h; exact .base (.tup h2)
  | lst xs => obtain ⟨a, vs, rfl, f, h2, q⟩ := r_lst h; exact .base (.lst h2)
  | dK ks xs =>
    obtain ⟨a, vs, rfl, f, h2, q⟩ := r_dK h
    rcases h2 with h2 | ⟨o, h2⟩
    · exact .base (.dK h2)
    · exact .fDict h2
  | dT ks xs => exact absurd rfl (nd ks xs)
  | bag => obtain ⟨a, hb, rfl⟩ := r_bag h; exact .base (.lst (b.at_ a hb).2)
  | cell n => exact absurd rfl (nc n)
def isaD (T : String) (d : D) : Option D := match d with
  | .dT _ _ => none
  | .cell _ => none
  | d => some (.bl (isaB T d))
def isaE (T : String) (ρ : EX) : EX := un1 (isaD T) ρ
variable {e : Expr} {ρ : EX} {pos p p2 : Pos}
theorem ev_isa {T : String} (hT : isTy T) (hg : Gl X "isinstance") (hm : X.mg "isinstance" = none) (he : EV X fr e ρ) (ht : PE X e2 (tC (.ty T)))
    (h1 : starEach [e, e2] X.env = (false, eval e X.env) :: starEach [e2] X.env := by rfl) (h2 : starEach [e2] X.env = (false, eval e2 X.env) :: starEach [] X.env := by rfl)
    (hpl : (backTo pos (starEach [e2] X.env)).any (·.1) = false := by rfl) : EV X fr (.Call (.Name "isinstance" p) [e, e2] [] pos) (isaE T ρ) := by
  refine ⟨fun pins s σ H Q I ⟨env, F, g, r, hgt⟩ => ?_⟩
  refine wpAny_Call_Name_kw (ld_blt (u := .builtin "isinstance") I hg hm rfl ?_ (by decide) (by decide))
  refine PyProof.Rows.callWith_builtin1 ?_ h1 hpl
  have key : tCons (tE fr ρ) (tCons (tC (.ty T)) tNil) σ H fun vs H1 => ∃ x t b, vs = [x, .ty T] ∧ TyX X.K H1 x (.type t) ∧ kitB t T = some b ∧ Q (.bl b) H1 := by
    refine got_seq r hgt fun d g' H' F' v ho ex er q hq => ?_
    obtain ⟨d2, hd, hq⟩ := ofO_got hq
    unfold isaD at hd
    split at hd
    · cases hd
    · cases hd
    · rename_i nd nc
      cases hd
      exact ⟨v, tyN d, _, rfl, tyX_of er.bag q nd nc, kitB_of hT d, got_hit hq (hit_here er.bag bl_r)⟩
  refine thn (PA.run (pa_cons he (pa_cons ht pa_nil h2) h1) pos pins s σ H _ I key) fun us s1 ⟨vs, H1, I1, rv, x, t, b, ev, ty, kb, q⟩ => ?_
  subst ev
  exact call_isi pins s1 σ H1 _ us _ I1 rv ⟨x, .ty T, .type t, .type T, b, rfl, .ty T, ty, kit_ty kb, q⟩
end
end VC

/-! VC14: sorted, min. -/
namespace VC
open PySem PySem.Spec L2 RZ
open PyProof.Rows hiding St

/-- the lists of pairs -/
theorem Rs.ofPairs {H : Hp} {F : Reg} {β : Bx} : ∀ {l : List (D × V)}, (∀ p ∈ l, R H F β p.1 p.2) → Rs H F β (l.map (·.1)) (l.map (·.2))
  | [], _ => .nil
  | p :: l, h => .cons (h p List.mem_cons_self) (Rs.ofPairs fun q hq => h q (List.mem_cons_of_mem _ hq))
theorem Rs.pairs {H : Hp} {F : Reg} {β : Bx} : ∀ {ds : List D} {vs : List V}, Rs H F β ds vs → ∃ l : List (D × V), ds = l.map (·.1) ∧ vs = l.map (·.2) ∧ ∀ p ∈ l, R H F β p.1 p.2
  | [], vs, h => by unfold Rs at h; subst h; exact ⟨[], rfl, rfl, fun _ z => nomatch z⟩
  | d :: ds, vs, h => by
    obtain ⟨v, r, rfl, h1, h2⟩ := h.uncons
    obtain ⟨l, rfl, rfl, hl⟩ := h2.pairs
    exact ⟨(d, v) :: l, rfl, rfl, fun p hp => by
      rcases List.mem_cons.mp hp with rfl | hp
      · exact h1
      · exact hl p hp⟩
abbrev keyP (p : D × V) : PyData := toPy p.1
theorem alike_symm_all (xs : List PyData) : True := trivial
def alikeB (ds : List PyData) : Bool := ds.all fun d => ds.all fun e => PySem.W.alike d e
theorem alikeB_of {ds : List PyData} (h : alikeB ds = true) : PySem.W.AllAlike ds := fun d hd e he => List.all_eq_true.mp (List.all_eq_true.mp h d hd) e he
def tupNE : PyData → Bool
  | .tuple (_ :: _) => true
  | _ => false
def notNT : PyData → Bool
  | .none => false
  | .tuple _ => false
  | _ => true
def sortableB (ds : List PyData) : Bool := ds.all tupNE || ds.all notNT
theorem sortableB_of {ds : List PyData} (h : sortableB ds = true) : PySem.W.Sortable ds := by
  rcases Bool.or_eq_true _ _ ▸ h with h | h
  · refine .inl fun d hd => ?_
    have q := List.all_eq_true.mp h d hd
    cases d with
    | tuple xs => cases xs with
      | nil => cases q
      | cons x r => exact ⟨x, r, rfl⟩
    | _ => cases q
  · refine .inr fun d hd => ?_
    have q := List.all_eq_true.mp h d hd
    cases d with
    | none => cases q
    | tuple xs => cases q
    | _ => exact ⟨(fun z => by cases z), (fun _ z => by cases z)⟩
def shallowB (ds : List PyData) : Bool := ds.all fun d => d.plain && decide (d.depth ≤ 60)
def sortOk (xs : List D) : Prop := alikeB (xs.map toPy) = true ∧ sortableB (xs.map toPy) = true ∧ shallowB (xs.map toPy) = true ∧ xs.length ≤ line
instance (xs : List D) : Decidable (sortOk xs) := by unfold sortOk; infer_instance
noncomputable def sortD (xs : List D) : List D := xs.mergeSort (PySem.W.dataLe false toPy)
theorem vals_pairs : ∀ {l : List (D × V)} {us : List Value}, Vals (l.map (·.2)) us → PySem.W.EachIs (fun u (p : D × V) => RelV p.2 u) us l
  | [], us, h => by cases h; exact .nil
  | p :: l, us, h => by
    cases h with
    | cons r t => exact .cons r (vals_pairs t)
theorem pairs_vals : ∀ {l : List (D × V)} {us : List Value}, PySem.W.EachIs (fun u (p : D × V) => RelV p.2 u) us l → Vals (l.map (·.2)) us
  | [], us, h => by cases h; exact .nil
  | p :: l, us, h => by
    cases h with
    | cons r t => exact .cons r (pairs_vals t)
section
variable {X : Cx} {fr : Fr} {H : Hp} {F : Reg} {β : Bx}
theorem each_reads {pins : List (Addr × Obj)} {s : Shared} {σ : St} {H : Hp} (I : Inv X pins σ H s) : ∀ {l : List (D × V)} {us : List Value}, (∀ p ∈ l, Dp X.K H p.2 (toPy p.1)) → Vals (l.map (·.2)) us → PySem.W.EachIs (fun u (p : D × V) => ∃ as, Reads s.heap u (toPy p.1) as) us l
  | [], us, _, h => by cases h; exact .nil
  | p :: l, us, hd, h => by
    cases h with
    | cons r t => exact .cons (Dp.reads I _ _ _ (hd p List.mem_cons_self) r) (each_reads I (fun q hq => hd q (List.mem_cons_of_mem _ hq)) t)
def rSortedD (K : PySem.W.Frag) : List V → Hp → VK → Prop := fun vs H Q => ∃ (a : Addr) (ps : List (D × V)), vs = [V.ref a] ∧ SqL K H a (ps.map (·.2)) ∧ (∀ p ∈ ps, Dp K H p.2 (toPy p.1)) ∧ sortOk (ps.map (·.1)) ∧
  ∀ p, H p = none → Q (.ref p) (upd H p (.lst ((ps.mergeSort (PySem.W.dataLe false keyP)).map (·.2))))
theorem cr_sortedD (hu : X.A.units + 64 < cLine) : CallR X (.builtin "sorted") (rSortedD X.K) := by
  intro pins s σ H vs us Q I r h
  obtain ⟨a, ps, rfl, hs, hd, ok, q⟩ := h
  obtain ⟨its, rv, hl, hz⟩ := I.list hs
  rw [Vals.ref1 r]
  have em : ps.map keyP = (ps.map (·.1)).map toPy := by rw [List.map_map]; rfl
  refine PySem.W.sorted_data (bs := ps) (enc := keyP) (R := fun u p => RelV p.2 u) hl.isList (vals_pairs rv) (each_reads I hd rv) (by rw [em]; exact alikeB_of ok.1) (by rw [em]; exact sortableB_of ok.2.1) (by rw [List.length_map] at hz; exact hz) (fun p hp => ?_) fun out ho eo => ?_
  · have h1 := List.all_eq_true.mp ok.2.2.1 (toPy p.1) (by rw [← em]; exact List.mem_map.mpr ⟨p, hp, rfl⟩)
    simp only [Bool.and_eq_true, decide_eq_true_eq] at h1
    have := h1.2
    show X.A.units + 2 + (toPy p.1).depth < cLine
    omega
  · obtain ⟨n, hn⟩ := PyProof.Rows.sortedAll_at s.heap its out.toArray
    refine ⟨.ref (s.heap.objs.size + 1), _, I.laid (o := .lst ((ps.mergeSort (PySem.W.dataLe false keyP)).map (·.2))) (t' := s.toks) (fun b o e => PyProof.Rows.sortedAll_old e) (Nat.le_succ _) ⟨?_, out, n, pairs_vals eo, hn⟩, rfl, q _ (I.hok.fresh (Nat.le_succ _))⟩
    rw [List.length_map, (List.mergeSort_perm _ _).length_eq]
    rw [List.length_map] at hz
    exact hz
theorem Rs.dpPairs {K : PySem.W.Frag} {l : List (D × V)} (h : ∀ p ∈ l, R H F β p.1 p.2) (hs : shallowB ((l.map (·.1)).map toPy) = true) : ∀ p ∈ l, Dp K H p.2 (toPy p.1) := fun p hp => by
  have h1 := List.all_eq_true.mp hs (toPy p.1) (List.mem_map.mpr ⟨p.1, List.mem_map.mpr ⟨p, hp, rfl⟩, rfl⟩)
  simp only [Bool.and_eq_true, decide_eq_true_eq] at h1
  exact R.dp _ _ h1.1 (h p hp)
theorem sortD_pairs (l : List (D × V)) : (l.mergeSort (PySem.W.dataLe false keyP)).map (·.1) = sortD (l.map (·.1)) := List.map_mergeSort fun _ _ _ _ => rfl
def keyInts : List Key → Option (List Int)
  | [] => some []
  | .inl i :: r => (keyInts r).map (i :: ·)
  | .inr _ :: _ => none
theorem keyInts_some : ∀ {ks : List Key} {ns : List Int}, keyInts ks = some ns → ks = ns.map Sum.inl
  | [], ns, h => by cases h; rfl
  | .inl i :: r, ns, h => by
    simp only [keyInts, Option.map_eq_some_iff] at h
    obtain ⟨m, h, rfl⟩ := h
    rw [List.map_cons, ← keyInts_some h]
  | .inr _ :: _, _, h => by cases h
def sortI (ns : List Int) : List Int := ns.mergeSort (fun a b => decide (a ≤ b))
theorem sortI_perm (ns : List Int) : (sortI ns).Perm ns := List.mergeSort_perm _ _
theorem sortI_pw (ns : List Int) : (sortI ns).Pairwise (· ≤ ·) := by
  have h := List.pairwise_mergeSort (le := fun a b : Int => decide (a ≤ b)) (fun a b c h1 h2 => by simp only [decide_eq_true_eq] at *; omega) (fun a b => by simp only [Bool.or_eq_true, decide_eq_true_eq]; omega) ns
  exact h.imp fun h => by simpa using h
theorem sortI_uniq {ns ms : List Int} (p : ms.Perm ns) (h : ms.Pairwise (· ≤ ·)) : ms = sortI ns :=
  List.Perm.eq_of_pairwise (le := (· ≤ ·)) (fun a b _ _ h1 h2 => Int.le_antisymm h1 h2) h (sortI_pw ns) (p.trans (sortI_perm ns).symm)
noncomputable def sortL : List D → Option D
  | [.lst xs] => if sortOk xs then some (.lst (sortD xs)) else none
  | [.dK ks _] => (keyInts ks).bind fun ns => if ns.length < 64 then some (.lst ((sortI ns).map D.int)) else none
  | _ => none
theorem ints_rs : ∀ ns : List Int, Rs H F β (ns.map D.int) (ns.map V.int)
  | [] => .nil
  | n :: r => .cons int_r (ints_rs r)
theorem o_sorted (hc : X.calm = true) (hu : X.A.units + 64 < cLine) : OpLN X fr (.builtin "sorted") sortL := ⟨fun H F g xs ds d b rs e => by
  unfold sortL at e
  split at e
  · rename_i xs2
    split at e
    · rename_i ok
      cases e
      obtain ⟨v, rfl, h1⟩ := rs1 rs
      obtain ⟨a, vs, rfl, f, h1, q⟩ := r_lst h1
      obtain ⟨l, rfl, rfl, hl⟩ := q.pairs
      refine ⟨_, cr_sortedD hu, a, l, rfl, SqL.of h1, Rs.dpPairs hl ok.2.2.1, ok, fun p hp => ?_⟩
      rw [← sortD_pairs]
      exact hitN_lst b (Rs.ofPairs fun p hp => hl p ((List.mergeSort_perm _ _).mem_iff.mp hp)) hp
    · cases e
  · rename_i ks ys
    obtain ⟨ns, hk, e⟩ := Option.bind_eq_some_iff.mp e
    split at e
    · rename_i hl
      cases e
      obtain ⟨v, rfl, h1⟩ := rs1 rs
      obtain ⟨a, kv, rfl, f, h1, ek, q⟩ := r_dK h1
      exact ⟨_, call_sortedDI hc, a, kv, ns, rfl, h1, by rw [← ek]; exact keyInts_some hk, hl, fun zs p hp pw hn => by rw [sortI_uniq hp pw]; exact hitN_lst b (ints_rs _) hn⟩
    · cases e
  · cases e⟩

/-! ### min -/
mutual
theorem toPy_inj : ∀ (d e : D), (toPy d).plain = true → toPy d = toPy e → d = e
  | .non, e, _, h => by cases e <;> first | rfl | cases h
  | .bl b, e, _, h => by cases e <;> first | (cases h; rfl) | cases h
  | .int b, e, _, h => by cases e <;> first | (cases h; rfl) | cases h
  | .str b, e, _, h => by cases e <;> first | (cases h; rfl) | cases h
  | .tup xs, e, p, h => by
    cases e with
    | tup ys => rw [toPys_inj xs ys p (by simpa [toPy] using h)]
    | _ => cases h
  | .lst xs, e, p, h => by
    cases e with
    | lst ys => rw [toPys_inj xs ys p (by simpa [toPy] using h)]
    | _ => cases h
  | .dK _ _, _, p, _ => by simp [toPy, PyData.plain] at p
  | .dT _ _, _, p, _ => by simp [toPy, PyData.plain] at p
  | .bag, _, p, _ => by simp [toPy, PyData.plain] at p
theorem toPys_inj : ∀ (d e : List D), PyData.plainAll (toPys d) = true → toPys d = toPys e → d = e
  | [], e, _, h => by cases e with
    | nil => rfl
    | cons y r => simp [toPys] at h
  | x :: r, e, p, h => by
    cases e with
    | nil => simp [toPys] at h
    | cons y s =>
      simp only [toPys, PyData.plainAll, Bool.and_eq_true, List.cons.injEq] at p h
      rw [toPy_inj x y p.1 h.1, toPys_inj r s p.2 h.2]
end
noncomputable def minOf (x : D) (xs : List D) : D := xs.foldl (fun a y => if PySem.W.dataLt (toPy y) (toPy a) then y else a) x
theorem minOf_toPy : ∀ (xs : List D) (x : D), toPy (minOf x xs) = PySem.W.minD (toPy x) (xs.map toPy)
  | [], x => rfl
  | y :: r, x => by
    show toPy (minOf (if PySem.W.dataLt (toPy y) (toPy x) then y else x) r) = PySem.W.minD (if PySem.W.dataLt (toPy y) (toPy x) then toPy y else toPy x) (r.map toPy)
    rw [minOf_toPy]
    split <;> rfl
theorem minOf_mem : ∀ (xs : List D) (x : D), minOf x xs ∈ x :: xs
  | [], x => List.mem_singleton.mpr rfl
  | y :: r, x => by
    show minOf (if PySem.W.dataLt (toPy y) (toPy x) then y else x) r ∈ _
    have := minOf_mem r (if PySem.W.dataLt (toPy y) (toPy x) then y else x)
    rcases List.mem_cons.mp this with e | h
    · rw [e]; split <;> simp
    · exact List.mem_cons_of_mem _ (List.mem_cons_of_mem _ h)
def notNone : PyData → Bool
  | .none => false
  | _ => true
def minOk (xs : List D) : Prop := alikeB (xs.map toPy) = true ∧ (xs.map toPy).all notNone = true ∧ PyData.plainAll (xs.map toPy) = true ∧ PyData.depthAll (xs.map toPy) ≤ 60
instance (xs : List D) : Decidable (minOk xs) := by unfold minOk; infer_instance
theorem alikeAll_of {ds : List PyData} (h : alikeB ds = true) (h2 : ds.all notNone = true) : PySem.W.AlikeAll ds := ⟨fun d hd e he => alikeB_of h d hd e he, fun d hd z => by
  have := List.all_eq_true.mp h2 d hd
  rw [z] at this
  cases this⟩
def rMinD (K : PySem.W.Frag) : List V → Hp → VK → Prop := fun vs H Q => ∃ (a : Addr) (p : D × V) (ps : List (D × V)), vs = [V.ref a] ∧ SqL K H a ((p :: ps).map (·.2)) ∧ (∀ q ∈ p :: ps, Dp K H q.2 (toPy q.1)) ∧ minOk ((p :: ps).map (·.1)) ∧
  ∀ q ∈ p :: ps, toPy q.1 = toPy (minOf p.1 (ps.map (·.1))) → Q q.2 H
theorem readsAll_of {h : Heap} : ∀ {l : List (D × V)} {us : List Value}, PySem.W.EachIs (fun u (p : D × V) => ∃ as, Reads h u (toPy p.1) as) us l → ∃ as, ReadsAll h us (l.map fun p => toPy p.1) as
  | [], us, h => by cases h; exact ⟨_, .nil⟩
  | p :: l, us, h => by
    cases h with
    | cons r t =>
      obtain ⟨as, r⟩ := r
      obtain ⟨bs, t⟩ := readsAll_of t
      exact ⟨_, .cons r t⟩
theorem vals_at : ∀ {l : List (D × V)} {us : List Value} {i : Nat} {u : Value}, Vals (l.map (·.2)) us → us[i]? = some u → ∃ p, l[i]? = some p ∧ RelV p.2 u
  | [], us, i, u, h, e => by cases h; simp at e
  | p :: l, us, 0, u, h, e => by
    cases h with
    | cons r t => simp at e; subst e; exact ⟨p, rfl, r⟩
  | p :: l, us, i + 1, u, h, e => by
    cases h with
    | cons r t => simpa using vals_at t (by simpa using e)
theorem cr_minD (hc : X.calm = true) (hu : X.A.units + 64 < cLine) : CallR X (.builtin "min") (rMinD X.K) := by
  intro pins s σ H vs us Q I r h
  obtain ⟨a, p, ps, rfl, hs, hd, ok, q⟩ := h
  obtain ⟨its, rv, hl, hz⟩ := I.list hs
  rw [Vals.ref1 r]
  have er := each_reads I hd rv
  obtain ⟨as, ra⟩ := readsAll_of er
  have em : (p :: ps).map (fun p => toPy p.1) = ((p :: ps).map (·.1)).map toPy := by rw [List.map_map]; rfl
  refine PySem.W.min_list_data (x := toPy p.1) (xs := ps.map fun p => toPy p.1) (I.ok.hd hc) hl.isList (by simpa using ra) (by
    have := alikeAll_of ok.1 ok.2.1
    rw [← em] at this
    exact this) (by
    have := ok.2.2.2
    rw [← em] at this
    have h2 : PyData.depthAll (toPy p.1 :: ps.map fun p => toPy p.1) ≤ 60 := this
    omega) fun i v h' tk bs hv rd hk => ?_
  have hv' : its[i]? = some v := by simpa using hv
  obtain ⟨z, hz1, hz2⟩ := vals_at rv hv'
  have hm : z ∈ p :: ps := List.mem_of_getElem? hz1
  obtain ⟨cs, rz⟩ := Dp.reads (I.kept (t' := tk) hk) _ _ _ (hd z hm) hz2
  have e1 : PySem.W.minD (toPy p.1) (ps.map fun p => toPy p.1) = toPy (minOf p.1 (ps.map (·.1))) := by
    rw [minOf_toPy, List.map_map]; rfl
  rw [e1] at rd
  have al : PySem.W.alike (toPy z.1) (toPy (minOf p.1 (ps.map (·.1)))) = true := alikeB_of ok.1 _ (List.mem_map.mpr ⟨z.1, List.mem_map.mpr ⟨z, hm, rfl⟩, rfl⟩) _ (List.mem_map.mpr ⟨_, by
    have := minOf_mem (ps.map (·.1)) p.1
    exact this, rfl⟩)
  exact ⟨z.2, H, I.kept (t' := tk) hk, hz2, q z hm (PySem.W.alike_unique _ _ _ _ _ al rz rd)⟩
noncomputable def minL : List D → Option D
  | [.int i, .int j] => some (.int (min i j))
  | [.lst (x :: xs)] => if minOk (x :: xs) then some (minOf x xs) else none
  | _ => none
theorem plainAll_mem : ∀ {ds : List PyData} {d : PyData}, PyData.plainAll ds = true → d ∈ ds → d.plain = true
  | x :: r, d, h, hm => by
    simp only [PyData.plainAll, Bool.and_eq_true] at h
    rcases List.mem_cons.mp hm with rfl | hm
    · exact h.1
    · exact plainAll_mem h.2 hm
theorem o_min (hc : X.calm = true) (hu : X.A.units + 64 < cLine) : OpL X fr (.builtin "min") minL := ⟨fun H F g xs ds d b rs e => by
  unfold minL at e
  split at e
  · rename_i i j
    cases e
    obtain ⟨v, w, rfl, h1, h2⟩ := rs2 rs
    rw [r_int h1, r_int h2]
    refine ⟨_, call_min2 hc, _, _, rfl, ?_⟩
    rw [show (if j < i then j else i) = min i j by split <;> omega]
    exact hit_here b int_r
  · rename_i x xs2
    split at e
    · rename_i ok
      cases e
      obtain ⟨v, rfl, h1⟩ := rs1 rs
      obtain ⟨a, vs, rfl, f, h3, q⟩ := r_lst h1
      obtain ⟨l, el, rfl, hl⟩ := q.pairs
      cases l with
      | nil => cases el
      | cons p ps =>
        simp only [List.map_cons, List.cons.injEq] at el
        obtain ⟨rfl, rfl⟩ := el
        have hp : ∀ z ∈ p :: ps, (toPy z.1).plain = true := fun z hz => plainAll_mem ok.2.2.1 (List.mem_map.mpr ⟨z.1, List.mem_map.mpr ⟨z, hz, rfl⟩, rfl⟩)
        refine ⟨_, cr_minD hc hu, a, p, ps, rfl, SqL.of h3, fun z hz => R.dp _ _ (hp z hz) (hl z hz), ok, fun z hz ez => ?_⟩
        rw [← toPy_inj _ _ (hp z hz) ez]
        exact hit_here b (hl z hz)
    · cases e
  · cases e⟩
def isBlD : D → D → Option D
  | .bl a, .bl b => some (.bl (a == b))
  | _, _ => none
def notBlD : D → D → Option D
  | .bl a, .bl b => some (.bl (!(a == b)))
  | _, _ => none
theorem o_isBl : Op2 X fr (compareOp .Is) isBlD := ⟨fun H F g x y d1 d2 d b r1 r2 e => by
  unfold isBlD at e
  split at e
  · cases e
    rw [r_bl r1, r_bl r2]
    exact ⟨_, op_isBl, _, _, rfl, rfl, by rw [show decide _ = (_ == _) from (Bool.beq_eq_decide_eq _ _).symm]; exact hit_here b bl_r⟩
  · cases e⟩
theorem o_notBl : Op2 X fr (compareOp .IsNot) notBlD := ⟨fun H F g x y d1 d2 d b r1 r2 e => by
  unfold notBlD at e
  split at e
  · cases e
    rw [r_bl r1, r_bl r2]
    exact ⟨_, op_notBl, _, _, rfl, rfl, by rw [show decide _ = (_ == _) from (Bool.beq_eq_decide_eq _ _).symm]; exact hit_here b bl_r⟩
  · cases e⟩

end
end VC

/-! VC15: dicts read, made, written; in. -/
namespace VC
open PySem PySem.Spec L2 RZ
open PyProof.Rows hiding St

def keyD : D → Option Key
  | .int i => some (.inl i)
  | .str x => some (.inr x)
  | _ => none
theorem keyD_some {H : Hp} {F : Reg} {β : Bx} {d : D} {k : Key} {v : V} (h : keyD d = some k) (q : R H F β d v) : v = kV k ∧ d = kD k := by
  cases d with
  | int i => cases h; exact ⟨r_int q, rfl⟩
  | str i => cases h; exact ⟨r_str q, rfl⟩
  | _ => cases h
def keysL : List D → Option (List Key)
  | [] => some []
  | d :: r => (keyD d).bind fun k => (keysL r).map fun ks => k :: ks
theorem keysL_some {H : Hp} {F : Reg} {β : Bx} : ∀ {ds : List D} {ks : List Key} {vs : List V}, keysL ds = some ks → Rs H F β ds vs → vs = ks.map kV ∧ ds = ks.map kD
  | [], ks, vs, h, q => by
    cases h
    unfold Rs at q
    subst q
    exact ⟨rfl, rfl⟩
  | d :: r, ks, vs, h, q => by
    obtain ⟨k, hk, h⟩ := Option.bind_eq_some_iff.mp h
    obtain ⟨ks2, hk2, rfl⟩ := Option.map_eq_some_iff.mp h
    obtain ⟨v, r2, rfl, h1, h2⟩ := q.uncons
    obtain ⟨rfl, rfl⟩ := keyD_some hk h1
    obtain ⟨rfl, rfl⟩ := keysL_some hk2 h2
    exact ⟨rfl, rfl⟩
def keyT : D → Option (List Key)
  | .tup xs => keysL xs
  | _ => none
theorem keyT_some {H : Hp} {F : Reg} {β : Bx} {d : D} {k : List Key} {v : V} (h : keyT d = some k) (q : R H F β d v) : ∃ b, v = .ref b ∧ H b = some (.tup (k.map kV)) ∧ d = tD k := by
  cases d with
  | tup xs =>
    obtain ⟨a, vs, rfl, h1, q⟩ := r_tup q
    obtain ⟨rfl, rfl⟩ := keysL_some h q
    exact ⟨a, rfl, h1, rfl⟩
  | _ => cases h
section
variable {κ : Type} [DecidableEq κ]
def valX : List κ → List D → κ → Option D
  | k' :: ks, x :: xs, k => if k' = k then some x else valX ks xs k
  | _, _, _ => none
def hasX (ks : List κ) (k : κ) : Bool := ks.any fun j => decide (j = k)
def putXs : List κ → List D → κ → D → List D
  | k' :: ks, x :: xs, k, d => (if k' = k then d else x) :: putXs ks xs k d
  | _, xs, _, _ => xs
def putX (ks : List κ) (xs : List D) (k : κ) (d : D) : List κ × List D := if hasX ks k = true then (ks, putXs ks xs k d) else (ks ++ [k], xs ++ [d])
theorem valX_rel {H : Hp} {F : Reg} {β : Bx} {k : κ} : ∀ {kv : List (κ × V)} {xs : List D}, Rs H F β xs (kv.map (·.2)) → match valX (kv.map (·.1)) xs k with
    | some d => ∃ v, valV kv k = some v ∧ R H F β d v
    | none => valV kv k = none
  | [], [], _ => rfl
  | [], _ :: _, h => by unfold Rs at h; obtain ⟨_, _, e, _⟩ := h; cases e
  | p :: kv, [], h => by unfold Rs at h; cases h
  | p :: kv, x :: xs, h => by
    obtain ⟨v, r, e, h1, h2⟩ := h.uncons
    simp only [List.map_cons, List.cons.injEq] at e
    obtain ⟨rfl, rfl⟩ := e
    have ih := valX_rel (k := k) h2
    simp only [List.map_cons, valX]
    by_cases z : p.1 = k
    · rw [if_pos z]
      exact ⟨p.2, valV_pos z, h1⟩
    · rw [if_neg z]
      rw [valV_neg z]
      exact ih
theorem valX_some {H : Hp} {F : Reg} {β : Bx} {k : κ} {kv : List (κ × V)} {xs : List D} {d : D} (h : Rs H F β xs (kv.map (·.2))) (e : valX (kv.map (·.1)) xs k = some d) : ∃ v, valV kv k = some v ∧ R H F β d v := by
  have := valX_rel (k := k) h
  rw [e] at this
  exact this
theorem valX_isSome {H : Hp} {F : Reg} {β : Bx} {k : κ} {kv : List (κ × V)} {xs : List D} (h : Rs H F β xs (kv.map (·.2))) : (valV kv k).isSome = (valX (kv.map (·.1)) xs k).isSome := by
  have := valX_rel (k := k) h
  split at this
  · obtain ⟨v, e, _⟩ := this
    rw [e] <;> simp [*]
  · rw [this] <;> simp [*]
theorem hasX_any {kv : List (κ × V)} {k : κ} : hasX (kv.map (·.1)) k = kv.any fun p => decide (p.1 = k) := by
  unfold hasX
  rw [List.any_map]
  rfl
theorem putXs_rs {H : Hp} {F : Reg} {β : Bx} {k : κ} {d : D} {v : V} (q : R H F β d v) : ∀ {kv : List (κ × V)} {xs : List D}, Rs H F β xs (kv.map (·.2)) → Rs H F β (putXs (kv.map (·.1)) xs k d) ((kv.map fun p => if p.1 = k then (p.1, v) else p).map (·.2))
  | [], xs, h => h
  | p :: kv, [], h => by unfold Rs at h; cases h
  | p :: kv, x :: xs, h => by
    obtain ⟨v', r, e, h1, h2⟩ := h.uncons
    simp only [List.map_cons, List.cons.injEq] at e
    obtain ⟨rfl, rfl⟩ := e
    simp only [List.map_cons, putXs]
    refine .cons ?_ (putXs_rs q h2)
    by_cases z : p.1 = k
    · rw [if_pos z, if_pos z]; exact q
    · rw [if_neg z, if_neg z]; exact h1
theorem putX_rel {H : Hp} {F : Reg} {β : Bx} {k : κ} {d : D} {v : V} {kv : List (κ × V)} {xs : List D} (h : Rs H F β xs (kv.map (·.2))) (q : R H F β d v) : (putX (kv.map (·.1)) xs k d).1 = (putK kv k v).map (·.1) ∧ Rs H F β (putX (kv.map (·.1)) xs k d).2 ((putK kv k v).map (·.2)) := by
  unfold putX putK
  rw [hasX_any]
  split
  · refine ⟨?_, putXs_rs q h⟩
    show kv.map (·.1) = _
    rw [List.map_map]
    refine List.map_congr_left fun p _ => ?_
    show p.1 = (if p.1 = k then (p.1, v) else p).1
    split <;> rfl
  · refine ⟨by simp, ?_⟩
    rw [List.map_append]
    exact h.append (.one q)
end
/-! ### d[k], k in d -/
def getD : D → D → Option D
  | .dK ks xs, k => (keyD k).bind fun k => valX ks xs k
  | .dT ks xs, k => (keyT k).bind fun k => valX ks xs k
  | _, _ => none
def hasD : D → D → Option Bool
  | .dK ks xs, k => (keyD k).map fun k => (valX ks xs k).isSome
  | .dT ks xs, k => (keyT k).map fun k => (valX ks xs k).isSome
  | _, _ => none
section
variable {X : Cx} {fr : Fr} {H : Hp} {F : Reg} {β : Bx} {o i : Expr} {ρ κ : EX} {pos : Pos}
theorem getD_some {d k x : D} {v w : V} (r : R H F β d v) (q : R H F β k w) (h : getD d k = some x) : ∃ a u, v = .ref a ∧ DGet H a w (some u) ∧ R H F β x u := by
  cases d with
  | dK ks xs =>
    obtain ⟨z, hz, h⟩ := Option.bind_eq_some_iff.mp h
    obtain ⟨a, kv, rfl, f, h1, rfl, rr⟩ := r_dK r
    obtain ⟨u, hu, ru⟩ := valX_some rr h
    exact ⟨a, u, rfl, .inl ⟨kv, z, h1, (keyD_some hz q).1, hu.symm⟩, ru⟩
  | dT ks xs =>
    obtain ⟨z, hz, h⟩ := Option.bind_eq_some_iff.mp h
    obtain ⟨a, kv, rfl, f, h1, rfl, rr⟩ := r_dT r
    obtain ⟨u, hu, ru⟩ := valX_some rr h
    obtain ⟨b, rfl, hb, _⟩ := keyT_some hz q
    exact ⟨a, u, rfl, .inr ⟨kv, z, b, h1, rfl, hb, hu.symm⟩, ru⟩
  | _ => cases h
theorem hasD_some {d k : D} {x : Bool} {v w : V} (r : R H F β d v) (q : R H F β k w) (h : hasD d k = some x) : ∃ a u, v = .ref a ∧ DGet H a w u ∧ u.isSome = x := by
  cases d with
  | dK ks xs =>
    obtain ⟨z, hz, rfl⟩ := Option.map_eq_some_iff.mp h
    obtain ⟨a, kv, rfl, f, h1, rfl, rr⟩ := r_dK r
    exact ⟨a, _, rfl, .inl ⟨kv, z, h1, (keyD_some hz q).1, rfl⟩, valX_isSome rr⟩
  | dT ks xs =>
    obtain ⟨z, hz, rfl⟩ := Option.map_eq_some_iff.mp h
    obtain ⟨a, kv, rfl, f, h1, rfl, rr⟩ := r_dT r
    obtain ⟨b, rfl, hb, _⟩ := keyT_some hz q
    exact ⟨a, _, rfl, .inr ⟨kv, z, b, h1, rfl, hb, rfl⟩, valX_isSome rr⟩
  | _ => cases h
theorem ev_dget (hu : X.A.units + 64 < cLine) (ho : EV X fr o ρ) (hi : EV X fr i κ) (hs : NoSl i := by intro _ _; rfl) : EV X fr (.Subscript o i pos) (bin2 getD ρ κ) := by
  refine ev_of _ _ _ (pe_dget (by omega) ho hi hs) fun σ H Q env F g r hg => ?_
  refine got_seq r hg fun d g1 H1 F1 v hoo ex er q hq => got_seq er hq fun k g2 H2 F2 w hoo2 ex2 er2 q2 hq2 => ?_
  obtain ⟨x, hx, hq3⟩ := ofO_got hq2
  obtain ⟨a, u, rfl, dg, ru⟩ := getD_some (q.ext er.bag ex2) q2 hx
  exact ⟨a, u, rfl, dg, got_hit hq3 (hit_here er2.bag ru)⟩
def inVD (k d : D) : Option D := (hasD d k).map .bl
def notInVD (k d : D) : Option D := (hasD d k).map fun b => .bl (!b)
theorem ev_din (hu : X.A.units + 64 < cLine) (hi : EV X fr i κ) (ho : EV X fr o ρ) (hm : behindInMarks .In o = false := by rfl) : EV X fr (.Compare i [.In] [o] pos) (bin2 inVD κ ρ) := by
  refine ev_of _ _ _ (pe_cmp (pc_din (by omega) hi ho) hm) fun σ H Q env F g r hg => ?_
  refine got_seq r hg fun d g1 H1 F1 v hoo ex er q hq => got_seq er hq fun k g2 H2 F2 w hoo2 ex2 er2 q2 hq2 => ?_
  obtain ⟨x, hx, hq3⟩ := ofO_got hq2
  obtain ⟨b, hb, rfl⟩ := Option.map_eq_some_iff.mp hx
  obtain ⟨a, u, rfl, dg, eb⟩ := hasD_some q2 (q.ext er.bag ex2) hb
  exact ⟨a, u, rfl, dg, by rw [eb]; exact got_hit hq3 (hit_here er2.bag bl_r)⟩
theorem ev_dnotin (hu : X.A.units + 64 < cLine) (hi : EV X fr i κ) (ho : EV X fr o ρ) (hm : behindInMarks .NotIn o = false := by rfl) : EV X fr (.Compare i [.NotIn] [o] pos) (bin2 notInVD κ ρ) := by
  refine ev_of _ _ _ (pe_cmp (pc_dnotin (by omega) hi ho) hm) fun σ H Q env F g r hg => ?_
  refine got_seq r hg fun d g1 H1 F1 v hoo ex er q hq => got_seq er hq fun k g2 H2 F2 w hoo2 ex2 er2 q2 hq2 => ?_
  obtain ⟨x, hx, hq3⟩ := ofO_got hq2
  obtain ⟨b, hb, rfl⟩ := Option.map_eq_some_iff.mp hx
  obtain ⟨a, u, rfl, dg, eb⟩ := hasD_some q2 (q.ext er.bag ex2) hb
  exact ⟨a, u, rfl, dg, by rw [eb]; exact got_hit hq3 (hit_here er2.bag bl_r)⟩
/-! ### x in a list or a tuple -/
def inSD (k d : D) : Option D := match itemsD d with
  | some xs => if (toPy k).plain = true ∧ (toPy k).depth ≤ 60 ∧ PyData.plainAll (toPys xs) = true then some (.bl ((toPys xs).any fun y => PyData.eqv y (toPy k))) else none
  | none => none
def notInSD (k d : D) : Option D := match itemsD d with
  | some xs => if (toPy k).plain = true ∧ (toPy k).depth ≤ 60 ∧ PyData.plainAll (toPys xs) = true then some (.bl (!(toPys xs).any fun y => PyData.eqv y (toPy k))) else none
  | none => none
def rInP (K : PySem.W.Frag) (neg : Bool) : R2 := fun x y H Q => ∃ d ds, Dp K H x d ∧ (Dp K H y (.list ds) ∨ Dp K H y (.tuple ds)) ∧ d.plain = true ∧ d.depth ≤ 60 ∧ PyData.plainAll ds = true ∧ Q (.bl (if neg = true then !ds.any (fun z => PyData.eqv z d) else ds.any (fun z => PyData.eqv z d))) H
theorem op_inP (hu : X.A.units + 64 < cLine) : OpR X (compareOp .In) (rInP X.K false) := by
  intro pins s σ H x y v u Q I rx ry h
  obtain ⟨d, ds, hd, he, sd, sz, se, q⟩ := h
  obtain ⟨as, r1⟩ := Dp.reads I d x v hd rx
  rcases he with he | he
  · obtain ⟨bs, r2⟩ := Dp.reads I (.list ds) y u he ry
    exact PySem.SeqAt.in_list_data r2 r1 se sd (by omega) ⟨.bl _, H, I, rfl, q⟩
  · obtain ⟨bs, r2⟩ := Dp.reads I (.tuple ds) y u he ry
    exact PySem.SeqAt.in_tuple_data r2 r1 se sd (by omega) ⟨.bl _, H, I, rfl, q⟩
theorem op_notInP (hu : X.A.units + 64 < cLine) : OpR X (compareOp .NotIn) (rInP X.K true) := by
  intro pins s σ H x y v u Q I rx ry h
  obtain ⟨d, ds, hd, he, sd, sz, se, q⟩ := h
  obtain ⟨as, r1⟩ := Dp.reads I d x v hd rx
  rcases he with he | he
  · obtain ⟨bs, r2⟩ := Dp.reads I (.list ds) y u he ry
    exact PySem.SeqAt.notIn_list_data r2 r1 se sd (by omega) ⟨.bl _, H, I, rfl, q⟩
  · obtain ⟨bs, r2⟩ := Dp.reads I (.tuple ds) y u he ry
    exact PySem.SeqAt.notIn_tuple_data r2 r1 se sd (by omega) ⟨.bl _, H, I, rfl, q⟩
theorem items_dp {K : PySem.W.Frag} {d : D} {xs : List D} {v : V} (h : itemsD d = some xs) (p : PyData.plainAll (toPys xs) = true) (q : R H F β d v) : Dp K H v (.list (toPys xs)) ∨ Dp K H v (.tuple (toPys xs)) := by
  cases d with
  | lst ys =>
    cases h
    obtain ⟨a, vs, rfl, f, h1, q⟩ := r_lst q
    exact .inl (.lst (SqL.of h1) (Rs.dp _ _ p q))
  | tup ys =>
    cases h
    obtain ⟨a, vs, rfl, h1, q⟩ := r_tup q
    exact .inr (.tup (SqT.of h1) (Rs.dp _ _ p q))
  | _ => cases h
theorem o_in (hu : X.A.units + 64 < cLine) : Op2 X fr (compareOp .In) inSD := ⟨fun H F g x y d1 d2 d b r1 r2 e => by
  unfold inSD at e
  split at e
  · rename_i xs hx
    split at e
    · rename_i hl
      cases e
      exact ⟨_, op_inP hu, _, _, R.dp _ _ hl.1 r1, items_dp hx hl.2.2 r2, hl.1, hl.2.1, hl.2.2, hit_here b bl_r⟩
    · cases e
  · cases e⟩
theorem o_notIn (hu : X.A.units + 64 < cLine) : Op2 X fr (compareOp .NotIn) notInSD := ⟨fun H F g x y d1 d2 d b r1 r2 e => by
  unfold notInSD at e
  split at e
  · rename_i xs hx
    split at e
    · rename_i hl
      cases e
      exact ⟨_, op_notInP hu, _, _, R.dp _ _ hl.1 r1, items_dp hx hl.2.2 r2, hl.1, hl.2.1, hl.2.2, hit_here b bl_r⟩
    · cases e
  · cases e⟩
/-! ### dict(pairs) -/
def pairD : D → Option (Key × D)
  | .tup [k, x] => (keyD k).map fun k => (k, x)
  | _ => none
def pairsD : List D → Option (List (Key × D))
  | [] => some []
  | d :: r => (pairD d).bind fun p => (pairsD r).map fun ps => p :: ps
def mergeD : List (Key × D) → List Key × List D → List Key × List D
  | [], a => a
  | p :: r, a => mergeD r (putX a.1 a.2 p.1 p.2)
def dictL : List D → Option D
  | [.lst xs] => (pairsD xs).map fun ps => let a := mergeD ps ([], []); .dK a.1 a.2
  | _ => none
theorem pairsD_some : ∀ {ds : List D} {ps : List (Key × D)} {vs : List V}, pairsD ds = some ps → Rs H F β ds vs → ∃ (as : List Addr) (kvs : List (Key × V)), vs = as.map V.ref ∧ (∀ (K : PySem.W.Frag), Paired (fun p kv => SqT K H p [kV kv.1, kv.2]) as kvs) ∧ kvs.map (·.1) = ps.map (·.1) ∧ Rs H F β (ps.map (·.2)) (kvs.map (·.2))
  | [], ps, vs, h, q => by
    cases h
    unfold Rs at q
    subst q
    exact ⟨[], [], rfl, fun _ => .nil, rfl, .nil⟩
  | d :: r, ps, vs, h, q => by
    obtain ⟨p, hp, h⟩ := Option.bind_eq_some_iff.mp h
    obtain ⟨ps2, hp2, rfl⟩ := Option.map_eq_some_iff.mp h
    obtain ⟨v, r2, rfl, h1, h2⟩ := q.uncons
    obtain ⟨as, kvs, rfl, hP, ek, hr⟩ := pairsD_some hp2 h2
    unfold pairD at hp
    split at hp
    · rename_i k x
      obtain ⟨k', hk, rfl⟩ := Option.map_eq_some_iff.mp hp
      obtain ⟨a, ws, rfl, ha, hw⟩ := r_tup h1
      obtain ⟨w1, w2, rfl, q1, q2⟩ := rs2 hw
      obtain ⟨rfl, _⟩ := keyD_some hk q1
      exact ⟨a :: as, (k', w2) :: kvs, rfl, fun K => .cons (SqT.of ha) (hP K), by simp [ek], .cons q2 hr⟩
    · cases hp
theorem mergeD_rel : ∀ {ps : List (Key × D)} {kvs : List (Key × V)} {a : List Key × List D} {acc : List (Key × V)}, kvs.map (·.1) = ps.map (·.1) → Rs H F β (ps.map (·.2)) (kvs.map (·.2)) → a.1 = acc.map (·.1) → Rs H F β a.2 (acc.map (·.2)) →
    (mergeD ps a).1 = (mergeK acc kvs).map (·.1) ∧ Rs H F β (mergeD ps a).2 ((mergeK acc kvs).map (·.2))
  | [], [], a, acc, _, _, h1, h2 => ⟨h1, h2⟩
  | [], _ :: _, _, _, h, _, _, _ => by cases h
  | _ :: _, [], _, _, h, _, _, _ => by cases h
  | p :: ps, kv :: kvs, a, acc, h, q, h1, h2 => by
    simp only [List.map_cons, List.cons.injEq] at h
    obtain ⟨v, r, e, q1, q2⟩ := q.uncons
    simp only [List.map_cons, List.cons.injEq] at e
    obtain ⟨rfl, rfl⟩ := e
    obtain ⟨a1, a2⟩ := a
    simp only at h1 h2
    subst h1
    have z := putX_rel (k := p.1) h2 q1
    have e2 := mergeD_rel (ps := ps) (kvs := kvs) (a := putX (acc.map (·.1)) a2 p.1 p.2) (acc := putK acc p.1 kv.2) h.2 q2 z.1 z.2
    show (mergeD ps (putX (acc.map (·.1)) a2 p.1 p.2)).1 = (mergeK (putK acc kv.1 kv.2) kvs).map (·.1) ∧ Rs H F β (mergeD ps (putX (acc.map (·.1)) a2 p.1 p.2)).2 ((mergeK (putK acc kv.1 kv.2) kvs).map (·.2))
    rw [h.1]
    exact e2
theorem hitN_dK {g : Bag} (b : BagOk fr.β F H g) {ks : List Key} {ds : List D} {kv : List (Key × V)} (ek : ks = kv.map (·.1)) (h : Rs H F fr.β ds (kv.map (·.2))) {p : Addr} (hp : H p = none) : HitN fr F H g (.dK ks ds) (.ref p) (upd H p (.dK kv)) :=
  ⟨F, Ext.put hp, b.put hp, p, kv, rfl, hp, fun f => b.live p f hp, b.neN hp, upd_same, ek, h.ext b (Ext.put hp)⟩
theorem o_dict (hc : X.calm = true) : OpLN X fr (.type "dict") dictL := ⟨fun H F g xs ds d b rs e => by
  unfold dictL at e
  split at e
  · obtain ⟨ps, hp, rfl⟩ := Option.map_eq_some_iff.mp e
    obtain ⟨v, rfl, h1⟩ := rs1 rs
    obtain ⟨a, vs, rfl, f, h1, q⟩ := r_lst h1
    obtain ⟨as, kvs, rfl, hP, ek, hr⟩ := pairsD_some hp q
    have z := mergeD_rel (a := ([], [])) (acc := []) ek hr rfl .nil
    exact ⟨_, call_dictP hc, a, as, kvs, rfl, SqL.of h1, hP _, fun p hn => hitN_dK b z.1 z.2 hn⟩
  · cases e⟩
end
end VC

/-! VC16: dict stores, raise, defs. -/
namespace VC
open PySem PySem.Spec L2 RZ
open PyProof.Rows hiding St

section
variable {X : Cx} {fs : Fs} {L O O1 O2 O' : List Nat} {st : Stmt} {rest : List Stmt} {pos : Pos} {e : Expr} {σ : St} {H : Hp} {F : Reg} {env : Slots} {g : Bag} {Dn : Ends} {te tk : TE} {ρ κ : EX}
/-! ### x[k] = e, x a dict -/
def dictAt (env : Slots) (i : Nat) : Option D := match env[i]? with
  | some (some (.dK ks xs)) => some (.dK ks xs)
  | some (some (.dT ks xs)) => some (.dT ks xs)
  | _ => none
def putO (d k x : D) : Option D := match d with
  | .dK ks xs => (keyD k).bind fun k => if ks.length < line then some (.dK (putX ks xs k x).1 (putX ks xs k x).2) else none
  | .dT ks xs => (keyT k).bind fun k => if ks.length < line then some (.dT (putX ks xs k x).1 (putX ks xs k x).2) else none
  | _ => none
theorem dictAt_some {env : Slots} {i : Nat} {d : D} (h : dictAt env i = some d) : env[i]? = some (some d) ∧ ((∃ ks xs, d = .dK ks xs) ∨ ∃ ks xs, d = .dT ks xs) := by
  unfold dictAt at h
  split at h
  · rename_i ks xs e; cases h; exact ⟨e, .inl ⟨ks, xs, rfl⟩⟩
  · rename_i ks xs e; cases h; exact ⟨e, .inr ⟨ks, xs, rfl⟩⟩
  · cases h
/-- the dict of an owned slot is written -/
theorem SR.putD (r : SR fs O F env σ H g) {i : Nat} {d d' k x : D} {w v y : V} (hi : i ∈ O) (he : env[i]? = some (some d)) (hd : (∃ ks xs, d = .dK ks xs) ∨ ∃ ks xs, d = .dT ks xs) (es : σ[i]? = some (some w)) {F2 : Reg} (qk : R H F2 fs.fr.β k y) (qx : R H F fs.fr.β x v) (hp : putO d k x = some d') :
    ∃ a o, w = .ref a ∧ DPut H a y v (upd H a o) ∧ SR fs O F (env.set i (some d')) σ (upd H a o) g ∧ Kp F H (upd H a o) := by
  obtain ⟨v', ev, _, h2⟩ := r.val i d he
  rw [es] at ev
  cases ev
  have own := h2 hi
  rcases hd with ⟨ks, xs, rfl⟩ | ⟨ks, xs, rfl⟩
  · obtain ⟨a, kv, rfl, nf, n0, ha, rfl, q⟩ := own
    obtain ⟨z, hz, hp⟩ := Option.bind_eq_some_iff.mp hp
    split at hp
    · rename_i hl
      cases hp
      obtain ⟨rfl, _⟩ := keyD_some hz qk
      obtain ⟨p1, p2⟩ := putX_rel (k := z) q qx
      have kp : Kp F H (upd H a (.dK (putK kv z v))) := Kp.upd nf ha fun _ z => nomatch z
      obtain ⟨r2, k2⟩ := r.write (o := .dK (putK kv z v)) (d' := .dK (putX (kv.map (·.1)) xs z x).1 (putX (kv.map (·.1)) xs z x).2) hi he rfl rfl es (fun _ z => nomatch z) ⟨a, _, rfl, nf, n0, upd_same, p1, p2.kp kp Reg.le.rfl⟩
      exact ⟨a, _, rfl, DPut.k ha (by rw [line_eq]; simpa using hl), r2, k2⟩
    · cases hp
  · obtain ⟨a, kv, rfl, nf, n0, ha, rfl, q⟩ := own
    obtain ⟨z, hz, hp⟩ := Option.bind_eq_some_iff.mp hp
    split at hp
    · rename_i hl
      cases hp
      obtain ⟨b, rfl, hb, _⟩ := keyT_some hz qk
      obtain ⟨p1, p2⟩ := putX_rel (k := z) q qx
      have kp : Kp F H (upd H a (.dT (putK kv z v))) := Kp.upd nf ha fun _ z => nomatch z
      obtain ⟨r2, k2⟩ := r.write (o := .dT (putK kv z v)) (d' := .dT (putX (kv.map (·.1)) xs z x).1 (putX (kv.map (·.1)) xs z x).2) hi he rfl rfl es (fun _ z => nomatch z) ⟨a, _, rfl, nf, n0, upd_same, p1, p2.kp kp Reg.le.rfl⟩
      exact ⟨a, _, rfl, DPut.t ha hb (by rw [line_eq]; simpa using hl), r2, k2⟩
    · cases hp
def dputF (i : Nat) (κ ρ : EX) : SX := fun env => M.bnd (ρ env) fun x => M.bnd (M.ofO (dictAt env i)) fun d => M.bnd (κ env) fun k => M.bnd (M.ofO (putO d k x)) fun d' => if flat x = true then M.ret (.nx (env.set i (some d'))) else M.bad
theorem sv_dputF {i : Nat} (h : PS X st (sDPut (tVar i) tk te)) (rd : Red fs.fr te ρ) (rk : Red fs.fr tk κ) (hi : i ∈ O) : SV X fs L O st (dputF i κ ρ) O := by
  refine ⟨fun pins s σ H D I ⟨F, env, g, r, hg⟩ => h.run pins s σ H D I ?_⟩
  refine rd σ H _ env _ g r.er (gotS_exp r hg fun x g1 H1 F2 v r1 kp ex b qd hq => ?_)
  obtain ⟨d, he, hq⟩ := gotS_ofO hq
  obtain ⟨he, hd⟩ := dictAt_some he
  obtain ⟨w, ev, _, _⟩ := r1.val i d he
  refine ⟨w, ev, rk σ H1 _ env _ g1 r1.er (gotS_exp r1 hq fun k g2 H2 F3 y r2 kp2 ex2 b2 qk hq => ?_)⟩
  obtain ⟨d', hp, hq2⟩ := gotS_ofO hq
  obtain ⟨hf, hq3⟩ := gotS_chk hq2
  obtain ⟨a, o, rfl, dp, r3, k3⟩ := r2.putD hi he hd ev qk ((R.flat_ (F := F2) (F' := F.mix F2) (fun _ _ h => h) x v hf qd).kp kp2 (.mix ex2.mono.cs)) hp
  exact ⟨a, _, rfl, dp, hq3 σ _ _ r3 k3 Reg.le.rfl⟩
/-! ### {k: v}, k a tuple -/
def disp1T (κ ρ : EX) : EX := fun env => M.bnd (κ env) fun k => M.bnd (ρ env) fun x => M.bnd (M.ofO (keyT k)) fun k => M.ret (.dT [k] [x])
def tDisp1 (tk tv : TE) : TE := fun σ H Q => ∀ p, H p = none → tk σ (upd H p (.dT [])) fun y H1 => tv σ H1 fun v H2 => H2 p = some (.dT []) ∧ ∃ (k : List Key) (b : Addr), y = .ref b ∧ H2 b = some (.tup (k.map kV)) ∧ Q (.ref p) (upd H2 p (.dT [(k, v)]))
theorem pe_disp1 {ek ev : Expr} {tv : TE} (hu : X.A.units + 64 < cLine) (hk : PE X ek tk) (hv : PE X ev tv) : PE X (.Dict [some ek] [ev] pos) (tDisp1 tk tv) := by
  refine ⟨fun pins s σ H Q I q => ?_⟩
  have hn := I.hok.fresh (Nat.le_refl s.heap.objs.size)
  have I1 := I.laid (a := s.heap.objs.size) (o := .dT []) (h' := s.heap.push { cls := .type "dict", data := .dict #[] }) (t' := s.toks) (fun _ _ q => Heap.get?_push_of_some _ q) (Nat.le_refl _) (dt_empty s.heap I.big)
  rw [arm_eval_Dict, zip_pairTrees [some ek] [ev] X.env pos rfl rfl, dictDisplay_pairs (pairTrees [some ek] [ev] X.env pos) (by simp [pairTrees]) (by simp [pairTrees])]
  refine wpAny_bind (wpAny_standAt (wpAny_bind (wpAny_subDictH (knd := tupleKind (mixKind X.prog X.w)) (show X.A.units < cLine by omega) (by simp [pairTrees]) ?_)))
  refine pairTrees_cons_walk (thn (hk.run pins _ σ _ _ I1 (q _ hn)) fun u s1 ⟨y, H1, I2, ry, q1⟩ => thn (hv.run pins s1 σ H1 _ I2 q1) fun w2 s2 ⟨v, H2, I3, rv, e, k, b, ey, eb, q2⟩ => pairTrees_nil_walk ?_)
  subst ey
  obtain rfl : u = Value.ref b := ry
  obtain ⟨z, hd, xs, rel, dd⟩ := dt_of I3.hok e
  cases rel
  refine ⟨[(k, b, w2)], ⟨rfl, rfl, key_of I3.hok eb, trivial⟩, dd, fun h' tk' dd' hs => wpAny_pure ?_⟩
  have dd2 : h'.DictOfH (tupleKind (mixKind X.prog X.w)) s.heap.objs.size [(k, b, w2)] := dd'
  obtain ⟨q', es, ep, hq, h2, h3, h4, h6, h5⟩ := dd2
  refine ⟨.ref s.heap.objs.size, _, d_write (ob := .dT [(k, v)]) I3 (by rw [e]; exact True.intro) hs ⟨q', hq⟩ ⟨(by show 1 ≤ sizeLine; rw [sizeLine_eq]; decide), hd, [(k, b, w2)], .cons ⟨rfl, ?_, rv⟩ .nil, q', es, ep, hq, h2, h3, h4, h5⟩, rfl, q2⟩
  rw [upd_ne (ne_of eb e (fun z => nomatch z))]
  exact eb
theorem hitN_dT {fr : Fr} {g : Bag} (b : BagOk fr.β F H g) {ks : List (List Key)} {ds : List D} {kv : List (List Key × V)} (ek : ks = kv.map (·.1)) (h : Rs H F fr.β ds (kv.map (·.2))) {p : Addr} (hp : H p = none) : HitN fr F H g (.dT ks ds) (.ref p) (upd H p (.dT kv)) :=
  ⟨F, Ext.put hp, b.put hp, p, kv, rfl, hp, fun f => b.live p f hp, b.neN hp, upd_same, ek, h.ext b (Ext.put hp)⟩
end
end VC

/-! VC17: a dict with one tuple key; raise; defs. -/
namespace VC
open PySem PySem.Spec L2 RZ
open PyProof.Rows hiding St

section
variable {X : Cx} {fr : Fr} {pos : Pos} {ek ev e : Expr} {es : List Expr} {ρ κ : EX} {ρs : AX}
theorem evn_disp1 (hu : X.A.units + 64 < cLine) (hk : EV X fr ek κ) (hv : EV X fr ev ρ) : EVN X fr (.Dict [some ek] [ev] pos) (disp1T κ ρ) := by
  refine ⟨fun pins s σ H Q I ⟨env, F, g, r, hg⟩ => (pe_disp1 hu hk hv).run pins s σ H Q I fun p hp => ?_⟩
  have e0 : Ext fr.β F H F (upd H p (.dT [])) := Ext.put hp
  have r0 := r.ext e0 (r.bag.put hp)
  refine ⟨env, F, g, r0, ?_⟩
  rcases gotN_bnd hg with ⟨k, g1, ho, hg⟩ | ⟨c, pp, g', ho, hg⟩
  case inr => rw [ho]; exact fun H' F' cls dd ex b q => hg H' F' cls dd (e0.trans ex) b q
  rw [ho]
  intro y H1 F1 ex1 b1 q1
  have r1 := r0.ext ex1 b1
  refine ⟨env, F1, g1, r1, ?_⟩
  rcases gotN_bnd hg with ⟨x, g2, ho2, hg⟩ | ⟨c, pp, g', ho2, hg⟩
  case inr => rw [ho2]; exact fun H' F' cls dd ex b q => hg H' F' cls dd (e0.trans (ex1.trans ex)) b q
  rw [ho2]
  intro v H2 F2 ex2 b2 q2
  rcases gotN_bnd hg with ⟨kk, g3, ho3, hg⟩ | ⟨c, pp, g', ho3, hg⟩
  case inr => cases hkk : keyT k <;> rw [hkk] at ho3 <;> cases ho3
  cases hkk : keyT k with
  | none => rw [hkk] at ho3; cases ho3
  | some kt =>
    rw [hkk] at ho3
    cases ho3
    have q1' := q1.ext b1 ex2
    obtain ⟨b, rfl, hb, _⟩ := keyT_some hkk q1'
    have exx : Ext fr.β F (upd H p (.dT [])) F2 H2 := ex1.trans ex2
    have hpβ : some p ≠ fr.β.ad := r.bag.neN hp
    have hp2 : H2 p = some (.dT []) := exx.keep p _ upd_same hpβ fun z => r.bag.live p (.inr z) hp
    have nF : ¬ F2 p := fun f => (exx.new p f).elim (fun f => r.bag.live p f hp) fun z => by rw [upd_same] at z; cases z
    have bg : BagOk fr.β F2 (upd H2 p (.dT [(kk, v)])) g2 := b2.over hp2 (fun xs z => by cases z) (fun xs z => by cases z) fun z => nF (.inr z)
    have kp : Kp F2 H2 (upd H2 p (.dT [(kk, v)])) := Kp.upd nF hp2 fun xs z => by cases z
    have ef : Ext fr.β F H F2 (upd H2 p (.dT [(kk, v)])) := (e0.trans exx).over hp
    exact ⟨hp2, kk, b, rfl, hb, hg (.ref p) _ F2 ef bg ⟨p, [(kk, v)], rfl, hp, nF, hpβ, upd_same, rfl, (Rs.one q2).kp kp Reg.le.rfl⟩⟩
/-- a def that may raise is called where it does not -/
theorem ev_callC {k : Nat} {f : Addr} {fd : FuncData} {ps : List Str} {ρf : FX} {x : Str} {p : Pos} (G : FnOk X.prog X.w X.K X.mg X.base (L2.CX X.prog X.w) k f fd ps (spV fr.β fr.xc ps.length ρf)) (hr : Room k X.A) (hg : Gl X x) (hm : X.mg x = some (.ref f)) (hk : PySem.W.keepIn X.K (.ref f) = true) (hb : Binds X.K fd ps []) (ha : AV X fr (e :: es) ρs)
    (hdb : (x == ("__debug__" : Str)) = false := by decide) (he : starEach (e :: es) X.env = (false, eval e X.env) :: starEach es X.env := by rfl) (hpl : (backTo pos (starEach es X.env)).any (·.1) = false := by rfl) :
    EV X fr (.Call (.Name x p) (e :: es) [] pos) (fnE ρf ρs ps.length) := by
  refine ev_of _ _ _ (pe_call G hr hg hm hk hb .nil passL ha hdb he hpl) fun σ H Q env F g r hgt => ?_
  refine gotLE r hgt fun ds g1 H1 F1 vs ho ex er q hq => ?_
  rw [List.append_nil]
  exact spV_of er.bag q hq
end
/-! ### raise -/
section
variable {X : Cx} {fs : Fs} {L O O1 O2 O' : List Nat} {st : Stmt} {rest : List Stmt} {pos : Pos} {e : Expr} {σ : St} {H : Hp} {F : Reg} {env : Slots} {g : Bag} {Dn : Ends} {te tk : TE} {ρ κ : EX}
theorem SR.out {F2 : Reg} {H' : Hp} (r : SR fs O F env σ H g) (ex : Ext fs.fr.β (F.or fun a => VC.held O env σ a) H F2 H') : Ext fs.fr.β fs.F0 fs.H0 F2 H' := r.exit ex
def raiseS (c : Nat) (ρ : EX) : SX := fun env => M.bnd (ρ env) fun d g => .exn c d g
/-- an __init__ that keeps its one argument in the field f -/
def spIni (C : Addr) (f : Str) : Sp := fun vs H Q _ => ∃ (a : Addr) (y : V), vs = [.ref a, y] ∧ H a = some (exo a C none) ∧ ∀ dx, H dx = none → dx ≠ a → Q .non (upd (upd H dx (exd dx [(f, y)])) a (exo a C (some dx)))
theorem sv_raise {c : Nat} {C : Addr} {f : Str} (h : PS X st (fun _ σ H => tMkO C (spIni C f) [] (tCons te tNil) σ H fun cls d H' => fs.fr.W cls d σ H')) (rd : Red fs.fr te ρ) (hx : fs.fr.xc c = some (C, some f)) : SV X fs L O st (raiseS c ρ) O' := by
  refine ⟨fun pins s σ H D I ⟨F, env, g, r, hg⟩ => h.run pins s σ H D I ?_⟩
  refine rd σ H _ env _ g r.er (gotS_exp r hg fun d g1 H1 F2 v r1 kp ex b qd hq => ?_)
  refine ⟨by show 1 ≤ 1000; decide, fun a ha => ?_⟩
  refine ⟨a, v, rfl, upd_same, fun dx hdx ne => ⟨rfl, dx, [(f, v)], upd_same, by rw [upd_ne ne]; exact upd_same, ?_, ?_⟩⟩
  · rw [upd_ne ne] at hdx; exact hdx
  · rw [upd_ne ne] at hdx
    have eH : upd (del (upd (upd (upd H1 a (exo a C none)) dx (exd dx [(f, v)])) a (exo a C (some dx))) a) dx (.xd [(f, v)]) = upd H1 dx (.xd [(f, v)]) := by
      funext z
      by_cases z1 : z = dx
      · rw [z1, upd_same, upd_same]
      · rw [upd_ne z1, upd_ne z1]
        by_cases z2 : z = a
        · rw [z2, del_same, ha]
        · rw [del_ne z2, upd_ne z2, upd_ne z1, upd_ne z2]
    rw [eH]
    have e1 : Ext fs.fr.β F2 H1 F2 (upd H1 dx (.xd [(f, v)])) := Ext.put hdx
    exact hq σ _ F2 _ _ ((r.out ex).trans e1) (b.put hdx) ⟨C, some f, hx, rfl, dx, v, rfl, upd_same, b.neN hdx, qd.ext b e1⟩
end
/-! ### defs -/
def startE (N : List Str) (ds : List D) : Slots := ds.map some ++ List.replicate (N.length - ds.length) none
def endM : Fl → M D
  | .rt d => M.ret d
  | .nx _ => M.ret .non
  | _ => M.bad
def fnD (N : List Str) (ρ : SX) : FX := fun ds => M.bnd (ρ (startE N ds)) endM
theorem start_er {fr : Fr} {N : List Str} {F : Reg} {H : Hp} {g : Bag} {ds : List D} {vs : List V} (b : BagOk fr.β F H g) (q : Rs H F fr.β ds vs) : ER fr F (startE N ds) (L2.start N vs) H g := by
  have hl := q.length
  refine ⟨by simp [startE, L2.start, hl], fun i d h => ?_, b⟩
  unfold startE at h
  by_cases hi : i < (ds.map some).length
  · rw [List.getElem?_append_left hi, List.getElem?_map] at h
    cases hd : ds[i]? with
    | none => rw [hd] at h; cases h
    | some d' =>
      rw [hd] at h
      cases h
      obtain ⟨v, ev, r⟩ := q.get hd
      refine ⟨v, ?_, r⟩
      unfold L2.start
      rw [List.getElem?_append_left (by simpa [hl] using hi), List.getElem?_map, ev]
      rfl
  · rw [List.getElem?_append_right (by omega), List.getElem?_replicate] at h
    split at h <;> cases h
/-- a def's body -/
theorem fnV {P : Program} {w : World} {K : PySem.W.Frag} {mg : Str → Option Value} {base : Heap} {x qual : Str} {st : Stmt} {f : Addr} {fd : FuncData} {N ps : List Str} {k : Nat} (Fn : Fun K x qual st f fd) (S : FnScope N ps (defScope st)) (β : Bx) (xc : Nat → Option (Addr × Option Str)) (ρ : SX)
    (hb : ∀ (cdv : Value) (A : Around) (outer : List Env) (s : Shared) (H : Hp) (E : XK), Room k (A.deeper (envOfC qual (defScope st) s.heap.objs.size f cdv)) → ∀ F : Reg,
      SVs (cxOf (L2.CX P w) P w K mg base N qual (defScope st) f cdv A outer s H E) ⟨⟨β, fun cls d _ H => E cls d H, xc⟩, F, H⟩ [] [] (defBody st) ρ []) :
    FnOk P w K mg base (L2.CX P w) (k + 1) f fd ps (spV β xc ps.length (fnD N ρ)) := by
  refine Fn.okX S (fun vs H Q E h => h.1) fun cdv A outer s H vs Q E hr h => ⟨_, hb cdv A outer s H E hr h.2.choose, ?_⟩
  obtain ⟨hl, h2⟩ := h
  obtain ⟨g, ds, b, q, hm⟩ := h2.choose_spec
  have er := start_er (fr := ⟨β, fun cls d _ H => E cls d H, xc⟩) (N := N) b q
  refine ⟨h2.choose, startE N ds, g, ⟨er.len, fun i d e => let ⟨v, ev, r⟩ := er.val i d e; ⟨v, ev, fun _ => r, (fun z => by cases z)⟩, (fun i j d e a hi => by cases hi), b, Ext.refl _ _ _, fun c e z => ?_⟩, ?_⟩
  · have h3 := (b.at_ c e).2
    have z : H c = none := z
    rw [z] at h3
    cases h3
  · unfold fnD M.bnd at hm
    cases ho : ρ (startE N ds) g with
    | bad => rw [ho] at hm; exact hm
    | exn c p g' => rw [ho] at hm; exact fun σ' H' F' cls dd e b q => hm H' F' cls dd e b q
    | ok fl g' =>
      rw [ho] at hm
      cases fl with
      | nx env' => exact fun σ' H' F' r _ _ => hm .non H' F' r.ext r.bag non_r
      | brk env' => exact (show False from hm).elim
      | ct env' => exact (show False from hm).elim
      | rt d => exact fun v H' F' e b q _ => hm v H' F' e b q
end VC

/-! VC18: enumerate over a tuple. -/
namespace VC
open PySem PySem.Spec L2 RZ
open PyProof.Rows hiding St
open AutoSeq1 (wpAny_loadPart')

theorem drawsT {prog : Program} {w : World} {A : Around} (hh : A.handled = none) (it l : Addr) (hne : l ≠ it) (items : Array Value) :
    Draws prog w A it [it, l] items.size (fun i v => items[i]? = some v) (fun i h => h.IsTupleIter it l i ∧ h.IsTuple l items) where
  live := fun _ _ st => let ⟨o, ho, _⟩ := st.1; ⟨o, ho⟩
  frame := fun _ _ _ st hk => ⟨let ⟨o, ho, r⟩ := st.1; ⟨o, hk it (by simp) o ho, r⟩, let ⟨o, ho, r⟩ := st.2; ⟨o, hk l (by simp) o ho, r⟩⟩
  item := fun i s Q E hi st hQ => by
    refine RZ.nextOf_tuple_item st.1 st.2 (x := items[i]) (by simp [hi]) fun h' hit' hs' => ?_
    exact hQ _ h' s.toks (by simp [hi]) ⟨hit', st.2.extBut hs'.extBut hne⟩ hs'
  done := fun s Q E st hE => RZ.nextOf_tuple_end hh st.1 st.2 (by simp) hE

theorem meets_enumerate_newT (l : Addr) (items : Array Value) (n : Nat) (dct : Option Addr) (sl : Array (Option Value)) :
    Meets (Builtin.«enumerate.__new__» ⟨[.type "enumerate", .ref l], []⟩) (fun _ R s => s.heap.get? l = some { cls := .type "tuple", dict := dct, data := .seq items n, slots := sl } ∧
      R (.ok (.ret (.ref (s.heap.push { cls := .type "tuple_iterator", data := .fields #[.ref l, .int 0 0] }).objs.size)))
        { s with heap := (s.heap.push { cls := .type "tuple_iterator", data := .fields #[.ref l, .int 0 0] }).push { cls := .type "enumerate", data := .fields #[.none, .bool false, .ref s.heap.objs.size, rawInt 0, .none, .none] } }) :=
  .of_wp fun prog w A R s h => by
    obtain ⟨hp, g, d, tk, os⟩ := s; obtain ⟨hl, h⟩ := h
    have hsub := sub_enumerate
    have hL : Heap.IsTuple (Shared.heap ⟨hp, g, d, tk, os⟩) l items := ⟨_, hl, rfl, n, rfl⟩
    wp_walk using wpAny_loadPart' hl
    refine wpAny_stack_any fun st => wpAny_pure ?_
    split
    · rename_i c _ _ _ _ _
      cases (c == Value.type "enumerate")
      · wp_walk using wpAny_loadPart' hl, wpAny_pyIter_tuple hL
        exact ⟨_, rfl, h⟩
      · wp_walk using wpAny_loadPart' hl, wpAny_pyIter_tuple hL
        exact ⟨_, rfl, h⟩
    · wp_walk using wpAny_loadPart' hl, wpAny_pyIter_tuple hL
      exact ⟨_, rfl, h⟩
section
variable {prog : Program} {w : World} {A : Around} {E : Value → Shared → Prop} {s : Shared}
theorem call_enumerate_tuple {l : Addr} {items : Array Value} {Q : Value → Shared → Prop} (hL : s.heap.IsTuple l items)
    (h : ∀ h', IsEnum h' (s.heap.objs.size + 1) s.heap.objs.size 0 .none → h'.IsTupleIter s.heap.objs.size l 0 → h'.objs.size = s.heap.objs.size + 2 →
      (∀ b o, s.heap.get? b = some o → h'.get? b = some o) → Q (.ref (s.heap.objs.size + 1)) { s with heap := h' }) :
    wpAny (model prog w) A (call (.type "enumerate") [.ref l]) Q E s := by
  obtain ⟨⟨c, dct, dt, sl⟩, hl, hc, n, hd⟩ := hL
  replace hc : c = .type "tuple" := hc
  replace hd : dt = .seq items n := hd
  subst hc hd
  refine callType_new F.called_enumerate (by decide) (F.typeCall_enumerate_1 _) (F.newCall_enumerate_1 _) (fun obj => F.args_object_init_2 obj _) F.entry_enumerate_new
    (meets_enumerate_newT l items n dct sl) ⟨hl, ?_⟩
  have hz : (s.heap.push { cls := .type "tuple_iterator", data := .fields #[.ref l, .int 0 0] }).objs.size = s.heap.objs.size + 1 := Heap.size_push ..
  show _ ∧ _
  rw [hz]
  have he : IsEnum ((s.heap.push { cls := .type "tuple_iterator", data := .fields #[.ref l, .int 0 0] }).push
      { cls := .type "enumerate", data := .fields #[.none, .bool false, .ref s.heap.objs.size, rawInt 0, .none, .none] }) (s.heap.objs.size + 1) s.heap.objs.size 0 .none := by
    have := Heap.get?_push_size (s.heap.push { cls := .type "tuple_iterator", data := .fields #[.ref l, .int 0 0] })
      (o := { cls := .type "enumerate", data := .fields #[.none, .bool false, .ref s.heap.objs.size, rawInt 0, .none, .none] }) rfl
    rw [hz] at this; exact this
  refine ⟨⟨_, he, rfl⟩, h _ he ⟨_, Heap.get?_push_of_some _ (Heap.get?_push_size _ rfl), rfl, rfl⟩ (by rw [Heap.size_push, hz]) fun b o x => Heap.get?_push_of_some _ (Heap.get?_push_of_some _ x)⟩
end
/-- the tuple at a, its items with their numbers, in new pairs -/
def IteT (K : PySem.W.Frag) (a : Addr) : It :=
  ⟨fun i H => ∃ (xs : List V) (x : V), SqT K H a xs ∧ xs[i]? = some x, fun i H v H' => ∃ T x, v = .ref T ∧ H T = none ∧ H' = upd H T (.tup [.int (i : Nat), x]) ∧ ∀ xs, SqT K H a xs → xs[i]? = some x, fun i H => ∃ xs : List V, SqT K H a xs ∧ xs.length ≤ i⟩
theorem turn_enumT {P : Program} {w : World} {K : PySem.W.Frag} {elts : List Expr} {kk : Nat} {tpos : Pos} (a e it : Addr) :
    Turn P w K (.Tuple elts kk tpos) (IteT K a) [e, it] e (fun i h => (∃ old, IsEnum h e it ((i : Nat) : Int) old) ∧ h.IsTupleIter it a i ∧ e ≠ it ∧ a ≠ it ∧ e ≠ a) where
  mem := by simp
  obj := fun i h st b hb => by
    obtain ⟨⟨old, he⟩, ⟨o, ho, hc, hd⟩, _⟩ := st
    have e' : b = e ∨ b = it := by simpa using hb
    rcases e' with z | z
    · rw [z]; exact ⟨_, he, fun v q => nomatch q⟩
    · rw [z]; exact ⟨o, ho, fun v q => by rw [hd] at q; cases q⟩
  keep := fun i h h' st k => let ⟨⟨old, he⟩, hi, hne⟩ := st; ⟨⟨old, k e (by simp) _ he⟩, let ⟨o, ho, r⟩ := hi; ⟨o, k it (by simp) o ho, r⟩, hne⟩
  item := by
    intro X hP hw hK hc i pins s σ H E I hf st hg
    subst hP hw hK
    obtain ⟨⟨old, he⟩, hit, hne, hai, hea⟩ := st
    obtain ⟨xs, x, hq, hx⟩ := hg
    obtain ⟨its, rv, p, hz⟩ := I.tuple hq
    obtain ⟨u, hu, ru⟩ := rv.get hx
    have hel : e < s.heap.objs.size := Heap.lt_size he
    have hil : it < s.heap.objs.size := by obtain ⟨_, q, _⟩ := hit; exact Heap.lt_size q
    have hlt : i < its.toArray.size := by
      have := (List.getElem?_eq_some_iff.mp hu).1
      simpa using this
    refine wpAny_pyNext_enum_itemD (drawsT (by show X.A.handled = none; exact I.ok.hd hc) it a hai its.toArray) he ⟨hit, p⟩ hlt hne (by simp [hne, hea]) fun x2 h' tk hx2 ho hst hT hsz hk => ?_
    have e2 : x2 = u := by
      have q : its.toArray[i]? = some u := by simpa using hu
      rw [q] at hx2
      exact (Option.some.inj hx2).symm
    subst e2
    refine ⟨_, rfl, wpAny_letOwnedTupleGo_enum (s := { s with heap := h', toks := tk + 1 }) ho fun h'' he' sb => ?_⟩
    have hT2 : h''.get? s.heap.objs.size = some { cls := .type "tuple", data := .seq #[.int i tk, x2] } := (sb.2 _ (Nat.ne_of_gt hel)).trans hT
    have new : ObjOk X.prog X.w (upd H s.heap.objs.size (.tup [.int (i : Nat), x])) h'' s.heap.objs.size (.tup [.int (i : Nat), x]) :=
      ⟨by show 2 ≤ sizeLine; decide, [.int i tk, x2], .cons ⟨_, rfl⟩ (.cons ru .nil), ⟨_, hT2, rfl, _, rfl⟩⟩
    have I1 : Inv X pins σ (upd H s.heap.objs.size (.tup [.int (i : Nat), x])) { s with heap := h'', toks := tk + 1 } :=
      I.turnedNew (ch := [e, it]) (fun b ob hb q => (sb.2 b (fun z => hb (by simp [z]))).trans (hk b ob (fun z => hb (by simp [z])) (fun z => hb (by simp [z])) q)) hf (Nat.le_refl _) new
    refine ⟨.ref s.heap.objs.size, _, I1, rfl, ⟨_, x, rfl, I.hok.fresh (Nat.le_refl _), rfl, fun ys hy => by rw [I.tuple_inj hy hq]; exact hx⟩, ⟨⟨x2, ?_⟩, let ⟨o, ho, r⟩ := hst.1; ⟨o, (sb.2 it (Ne.symm hne)).trans ho, r⟩, hne, hai, hea⟩, fun b hb => ?_⟩
    · have e1 : ((i + 1 : Nat) : Int) = (i : Int) + 1 := by omega
      rw [e1]; exact he'
    · have hb' : b < s.heap.objs.size := by
        have e' : b = e ∨ b = it := by simpa using hb
        rcases e' with z | z
        · rw [z]; exact hel
        · rw [z]; exact hil
      rw [upd_ne (Nat.ne_of_lt hb')]
      exact (hf b hb).1
  done := by
    intro X hP hw hK hc i pins s σ H E I hf st hg
    subst hP hw hK
    obtain ⟨⟨old, he⟩, hit, hne, hai, hea⟩ := st
    obtain ⟨xs, hq, hx⟩ := hg
    obtain ⟨its, rv, p, hz⟩ := I.tuple hq
    obtain ⟨f0, f1, f2, f3, f4, f5⟩ := hf it (by simp)
    have hl := rv.length
    have hT : s.TypeIs (.ref e) "enumerate" := ⟨_, he, rfl⟩
    unfold pyNext
    refine wpAny_bind (wpAny_attempt (wpAny_callSpecial?_slot (name := Str.ofString "__next__") hT F.slot_enumerate_next
      (wpAny_call_entry F.slot_enumerate_next hT F.entry_enumerate_next ?_ (F.args_enumerate_next_1 _))))
    show wpAny _ _ (field (.ref e) 2 >>= _) _ _ _
    refine wpAny_bind (wpAny_field he rfl (x := .ref it) rfl ?_)
    refine wpAny_bind (RZ.nextOf_tuple_end (by show X.A.handled = none; exact I.ok.hd hc) hit p (by simp; omega) fun h' x eb hx' => ?_)
    obtain ⟨o, ho, hcc⟩ := hx'
    refine wpAny_bind (wpAny_isInstance (T := "StopIteration") (b := true) ⟨o, ho, hcc⟩ isSubtype_stop ?_)
    exact wpAny_pure ⟨rfl, I.turned (t' := s.toks) (fun b o hb q => eb b o hb q) f0 f1 f3 f4 f5⟩
  self := fun A i s Q E st h => let ⟨⟨_, he⟩, _⟩ := st; wpAny_pyIter_enum he h
def iEnumT (K : PySem.W.Frag) (ta : TA) : TI := fun σ H R => ta σ H fun vs H1 => ∃ a xs, vs = [.ref a] ∧ SqT K H1 a xs ∧ R (IteT K a) H1
theorem pi_enumT {X : Cx} {e : Expr} {ta : TA} {p pos tpos : Pos} {elts : List Expr} {kk : Nat} (hg : Gl X "enumerate") (hm : X.mg "enumerate" = none) (ha : PA X [e] ta) (hs : starEach [e] X.env = [(false, eval e X.env)] := by rfl) :
    PI X (.Tuple elts kk tpos) (.Call (.Name "enumerate" p) [e] [] pos) (iEnumT X.K ta) := by
  refine ⟨fun pins s σ H R I h => ?_⟩
  refine Call_ (ld_blt I hg hm boot_enumerate (PyProof.Rows.callWith_type1 (thn (ha.run pos pins s σ H _ I h) fun us s1 ⟨vs, H1, I1, r1, q1⟩ => ?_) hs rfl))
  obtain ⟨a, xs, ex, hq, q⟩ := q1
  subst ex
  cases r1 with
  | cons r rr =>
    cases rr
    cases r
    obtain ⟨its, rv, p', hz⟩ := I1.tuple hq
    have hal : a < s1.heap.objs.size := by obtain ⟨_, z, _⟩ := p'; exact Heap.lt_size z
    refine call_enumerate_tuple p' fun h' he hit hsz hk => wpAny_pyIter_enum he ?_
    have I2 : Inv X pins σ H1 { s1 with heap := h' } := I1.kept (t' := s1.toks) hk
    refine ⟨s1.heap.objs.size + 1, [s1.heap.objs.size + 1, s1.heap.objs.size], _, _, H1, rfl, I2, turn_enumT a (s1.heap.objs.size + 1) s1.heap.objs.size, ⟨⟨.none, he⟩, hit, Nat.succ_ne_self _, Nat.ne_of_lt hal, Nat.ne_of_gt (Nat.lt_succ_of_lt hal)⟩, fun b hb => ?_, q⟩
    have e' : b = s1.heap.objs.size + 1 ∨ b = s1.heap.objs.size := by simpa using hb
    have hle : s1.heap.objs.size ≤ b := by
      rcases e' with z | z
      · rw [z]; exact Nat.le_add_right _ _
      · rw [z]; exact Nat.le_refl _
    exact I1.fpOk hle (I1.hok.fresh hle)
theorem walk_enumT {K : PySem.W.Frag} {a : Addr} {xs : List V} : Walk (IteT K a) xs.length (fun H => SqT K H a xs) (YPair (fun i => some (.int (i : Nat))) (fun i => xs[i]?)) := by
  refine ⟨fun i _ hi q => ⟨xs, xs[i], q, by simp [hi]⟩, fun _ q => ⟨xs, q, Nat.le_refl _⟩, fun i H v H' _ q y => ?_⟩
  obtain ⟨T, x, h1, h2, h3, h4⟩ := y
  exact ⟨T, .int (i : Nat), x, h1, h2, h3, rfl, h4 xs q⟩
def enumTI (ρs : AX) : IX := fun env => M.bnd (ρs env) fun ds => M.ofO (match ds with
  | [.tup xs] => some (enumD 0 xs)
  | _ => none)
section
variable {X : Cx} {fr : Fr} {e : Expr} {ρs : AX} {pos : Pos}
theorem iv_enumT {p tpos : Pos} {elts : List Expr} {kk : Nat} (hg : Gl X "enumerate") (hm : X.mg "enumerate" = none) (ha : AV X fr [e] ρs) (hs : starEach [e] X.env = [(false, eval e X.env)] := by rfl) :
    IV X fr (.Tuple elts kk tpos) (.Call (.Name "enumerate" p) [e] [] pos) (enumTI ρs) := by
  refine ⟨fun pins s σ H P I ⟨env, F, g, r, hgt⟩ => (pi_enumT hg hm ha hs).run pins s σ H P I (gotLI r hgt fun ds g1 H1 F1 vs ho ex er q hq => ?_)⟩
  obtain ⟨ys, ey, hq⟩ := ofOI_got hq
  split at ey
  · rename_i xs
    cases ey
    obtain ⟨v, rfl, h1⟩ := rs1 q
    obtain ⟨a, us, rfl, ha1, q1⟩ := r_tup h1
    refine ⟨a, us, rfl, SqT.of ha1, hq _ H1 F1 (Ext.refl _ _ _) er.bag (wk_pairs (ds := enumD 0 xs) (by rw [enumD_length, q1.length]; exact walk_enumT) (fun H2 k => SqT.of (k.tup a _ ha1)) fun i x y hi e1 e2 => ?_)⟩
    obtain ⟨d, ed, rd⟩ := q1.getV e2
    refine ⟨.int i, d, by rw [enumD_get, ed]; simp, ?_, rd⟩
    cases e1
    exact int_r
  · cases ey
end
end VC

/-! VC19: chained comparisons, a thing handed on, names. -/
namespace VC
open PySem PySem.Spec L2 RZ
open PyProof.Rows hiding St

def cmpI : CmpOp → Int → Int → Bool
  | .Lt, i, j => decide (i < j)
  | .LtE, i, j => decide (i ≤ j)
  | .Gt, i, j => decide (j < i)
  | .GtE, i, j => decide (j ≤ i)
  | _, _, _ => false
def chE (op op' : CmpOp) (a b c : EX) : EX := fun env => M.bnd (a env) fun x => M.bnd (b env) fun y => M.bnd (M.ofO (asI x)) fun i => M.bnd (M.ofO (asI y)) fun j =>
  if cmpI op i j = true then M.bnd (c env) fun z => M.bnd (M.ofO (asI z)) fun k => M.ret (.bl (cmpI op' j k)) else M.ret (.bl false)
def isCmpI (op : CmpOp) : Prop := op = .Lt ∨ op = .LtE ∨ op = .Gt ∨ op = .GtE
section
variable {X : Cx} {fr : Fr} {a b c : Expr} {ρa ρb ρc : EX} {pos : Pos} {op op' : CmpOp}
theorem op_cmpI (h : isCmpI op) : OpR X (compareOp op) (rI0 fun i j => .bl (cmpI op i j)) := by
  rcases h with rfl | rfl | rfl | rfl
  · exact op_lt
  · exact op_le
  · exact op_gt
  · exact op_ge
theorem got_ofO {α : Type} {o : Option α} {F : Reg} {σ : St} {H : Hp} {Q : VK} {g : Bag} {f : α → M D} (h : Got fr F σ H Q (M.bnd (M.ofO o) f g)) : ∃ a, o = some a ∧ Got fr F σ H Q (f a g) := by
  cases o with
  | none => exact (show False from h).elim
  | some a => exact ⟨a, rfl, h⟩
theorem ev_chain (h1 : isCmpI op) (h2 : isCmpI op') (ha : EV X fr a ρa) (hb : EV X fr b ρb) (hc : EV X fr c ρc)
    (hm : lastMarks [op, op'] [b, c] = false := by with_unfolding_all rfl) : EV X fr (.Compare a [op, op'] [b, c] pos) (chE op op' ρa ρb ρc) := by
  refine ev_of _ _ _ (pe_chain (op_cmpI h1) (op_cmpI h2) ha hb hc hm) fun σ H Q env F g r hg => ?_
  refine got_seq r hg fun x g1 H1 F1 v ho ex er q hq => got_seq er hq fun y g2 H2 F2 w ho2 ex2 er2 q2 hq2 => ?_
  obtain ⟨i, hi, hq3⟩ := got_ofO hq2
  obtain ⟨j, hj, hq4⟩ := got_ofO hq3
  have q1 := q.ext er.bag ex2
  rw [asI_some hi] at q1
  rw [asI_some hj] at q2
  refine ⟨i, j, r_int q1, r_int q2, cmpI op i j, rfl, ?_⟩
  by_cases hk : cmpI op i j = true
  · rw [if_pos hk] at hq4 ⊢
    refine got_seq er2 hq4 fun z g3 H3 F3 u ho3 ex3 er3 q3 hq5 => ?_
    obtain ⟨k, hk2, hq6⟩ := got_ofO hq5
    rw [asI_some hk2] at q3
    exact ⟨j, k, r_int q2, r_int q3, got_hit hq6 (hit_here er3.bag bl_r)⟩
  · rw [if_neg hk] at hq4 ⊢
    exact got_hit hq4 (hit_here er2.bag bl_r)
theorem tT_val {fr : Fr} {ρ : EX} {t : TE} (h : ∀ σ H Q env F g, ER fr F env σ H g → Got fr F σ H Q (ρ env g) → t σ H Q) : ∀ σ H Q env F g, ER fr F env σ H g → GotB fr F σ H Q (valT ρ env g) → tTest t σ H Q := fun σ H Q env F g r hg => by
  refine h σ H _ env F g r ?_
  unfold valT M.bnd at hg
  cases ho : ρ env g with
  | bad => rw [ho] at hg; exact hg
  | exn c p g' => rw [ho] at hg; exact hg
  | ok d g' =>
    rw [ho] at hg
    intro v H' F' ex b q
    obtain ⟨k, ek, hg⟩ := ofOB_got (show GotB fr F σ H Q (M.ofO (asB d) g') from hg)
    cases d with
    | bl b' =>
      cases ek
      exact ⟨_, r_bl q, hg H' F' ex b⟩
    | _ => cases ek
theorem tv_chain (h1 : isCmpI op) (h2 : isCmpI op') (ha : EV X fr a ρa) (hb : EV X fr b ρb) (hc : EV X fr c ρc)
    (hm : lastMarks [op, op'] [b, c] = false := by with_unfolding_all rfl) : TV X fr (.Compare a [op, op'] [b, c] pos) (valT (chE op op' ρa ρb ρc)) := by
  refine tv_of _ _ _ (pt_chain (op_cmpI h1) (op_cmpI h2) ha hb hc hm) (tT_val fun σ H Q env F g r hg => ?_)
  refine got_seq r hg fun x g1 H1 F1 v ho ex er q hq => got_seq er hq fun y g2 H2 F2 w ho2 ex2 er2 q2 hq2 => ?_
  obtain ⟨i, hi, hq3⟩ := got_ofO hq2
  obtain ⟨j, hj, hq4⟩ := got_ofO hq3
  have q1 := q.ext er.bag ex2
  rw [asI_some hi] at q1
  rw [asI_some hj] at q2
  refine ⟨i, j, r_int q1, r_int q2, cmpI op i j, rfl, ?_⟩
  by_cases hk : cmpI op i j = true
  · rw [if_pos hk] at hq4 ⊢
    refine got_seq er2 hq4 fun z g3 H3 F3 u ho3 ex3 er3 q3 hq5 => ?_
    obtain ⟨k, hk2, hq6⟩ := got_ofO hq5
    rw [asI_some hk2] at q3
    exact ⟨j, k, r_int q2, r_int q3, got_hit hq6 (hit_here er3.bag bl_r)⟩
  · rw [if_neg hk] at hq4 ⊢
    exact got_hit hq4 (hit_here er2.bag bl_r)
end
/-! ### a thing handed on: i = j, j's thing -/
section
variable {X : Cx} {fs : Fs} {L O O1 O2 O' : List Nat} {st : Stmt} {σ : St} {H : Hp} {F : Reg} {env : Slots} {g : Bag}
def mvS (i j : Nat) : SX := fun env => M.bnd (M.ofO (env[j]?.bind id)) fun d => M.ret (.nx ((env.set i (some d)).set j none))
theorem SR.clear (r : SR fs O F env σ H g) (j : Nat) : SR fs O F (env.set j none) σ H g := by
  have h0 : ∀ {i : Nat} {d : D}, (env.set j none)[i]? = some (some d) → env[i]? = some (some d) := fun {i d} h => by
    by_cases e : i = j
    · subst e
      have hl : i < env.length := by
        have := (List.getElem?_eq_some_iff.mp h).1
        simpa using this
      rw [List.getElem?_set_self hl] at h
      cases h
    · rw [List.getElem?_set_ne (Ne.symm e)] at h
      exact h
  exact ⟨by simpa using r.len, fun i d h => r.val i d (h0 h), fun i k d e a hi hk ne h h' => r.sep i k d e a hi hk ne (h0 h) (h0 h'), r.bag, r.ext, r.nb⟩
theorem sv_mv {i j : Nat} (h : PS X st (tAsg (tVar j) (gName i))) (hne : i ≠ j) (hj : j ∈ O) (hO : ∀ k, k ≠ i → (k ∈ O' ↔ k ∈ O ∧ k ≠ j)) (hi : i ∈ O') : SV X fs L O st (mvS i j) O' := by
  refine ⟨fun pins s σ H Dn I ⟨F, env, g, r, hg⟩ => h.run pins s σ H Dn I ?_⟩
  obtain ⟨d, hd, hg2⟩ := gotS_ofO hg
  have he : env[j]? = some (some d) := by
    cases q : env[j]? with
    | none => rw [q] at hd; cases hd
    | some x =>
      rw [q] at hd
      have hd : x = some d := hd
      rw [hd]
  obtain ⟨v, ev, _, ho⟩ := r.val j d he
  refine ⟨v, ev, ?_⟩
  refine hg2 _ H F ?_ (Kp.refl F H) Reg.le.rfl
  have own := ho hj
  have r0 := r.clear j
  have hset : (env.set i (some d)).set j none = (env.set j none).set i (some d) := List.set_comm _ _ hne
  rw [hset]
  -- what a slot other than i holds
  have old : ∀ {k : Nat} {e : D}, k ≠ i → ((env.set j none).set i (some d))[k]? = some (some e) → env[k]? = some (some e) ∧ k ≠ j := fun {k e} z hk => by
    rw [List.getElem?_set_ne (Ne.symm z)] at hk
    by_cases q : k = j
    · subst q
      have hl : k < env.length := by
        have := (List.getElem?_eq_some_iff.mp hk).1
        simpa using this
      rw [List.getElem?_set_self hl] at hk
      cases hk
    · rw [List.getElem?_set_ne (Ne.symm q)] at hk
      exact ⟨hk, q⟩
  have at_i : ∀ {e : D}, ((env.set j none).set i (some d))[i]? = some (some e) → e = d ∧ (σ.set i (some v))[i]? = some (some v) := fun {e} hk => by
    have hl : i < (env.set j none).length := by
      have := (List.getElem?_eq_some_iff.mp hk).1
      simpa using this
    rw [List.getElem?_set_self hl] at hk
    cases hk
    exact ⟨rfl, by rw [List.getElem?_set_self (by rw [← r0.len]; exact hl)]⟩
  refine ⟨by simpa using r.len, fun k e hk => ?_, fun k l e e' a hk hl hkl h1 h2 c1 c2 s1 s2 => ?_, r.bag, r.ext, r.nb⟩
  · by_cases z : k = i
    · subst z
      obtain ⟨rfl, ev2⟩ := at_i hk
      exact ⟨v, ev2, fun hm => absurd hi hm, fun _ => own⟩
    · obtain ⟨hk2, kj⟩ := old z hk
      obtain ⟨u, e2, q1, q2⟩ := r.val k e hk2
      exact ⟨u, by rw [List.getElem?_set_ne (Ne.symm z)]; exact e2, fun hm => q1 fun hh => hm ((hO k z).mpr ⟨hh, kj⟩), fun hm => q2 ((hO k z).mp hm).1⟩
  · by_cases zk : k = i
    · subst zk
      have zl : l ≠ k := fun q => hkl q.symm
      obtain ⟨rfl, ev2⟩ := at_i h1
      rw [ev2] at s1
      cases s1
      obtain ⟨hl2, lj⟩ := old zl h2
      rw [List.getElem?_set_ne (Ne.symm zl)] at s2
      exact r.sep j l _ _ a hj ((hO l zl).mp hl).1 (Ne.symm lj) he hl2 c1 c2 ev s2
    · obtain ⟨hk2, kj⟩ := old zk h1
      rw [List.getElem?_set_ne (Ne.symm zk)] at s1
      by_cases zl : l = i
      · subst zl
        obtain ⟨rfl, ev2⟩ := at_i h2
        rw [ev2] at s2
        cases s2
        exact r.sep k j _ _ a ((hO k zk).mp hk).1 hj kj hk2 he c1 c2 s1 ev
      · obtain ⟨hl2, lj⟩ := old zl h2
        rw [List.getElem?_set_ne (Ne.symm zl)] at s2
        exact r.sep k l _ _ a ((hO k zk).mp hk).1 ((hO l zl).mp hl).1 hkl hk2 hl2 c1 c2 s1 s2
end
end VC

/-! VC20: what a written walk wants: lists of slots, defs at their places. -/
namespace VC
open PySem PySem.Spec L2 RZ
open PyProof.Rows hiding St

def okSub (O1 O : List Nat) : Bool := O1.all fun i => O.contains i
theorem osub {O1 O : List Nat} (h : okSub O1 O = true) : ∀ i, i ∈ O1 → i ∈ O := fun i hi => by
  have := List.all_eq_true.mp h i hi
  simpa using this
def okSet (O O' : List Nat) (i : Nat) : Bool := (O'.all fun j => j == i || O.contains j) && O.all fun j => j == i || O'.contains j
theorem oset {O O' : List Nat} {i : Nat} (h : okSet O O' i = true) : ∀ j, j ≠ i → (j ∈ O' ↔ j ∈ O) := fun j hj => by
  simp only [okSet, Bool.and_eq_true] at h
  refine ⟨fun hm => ?_, fun hm => ?_⟩
  · have := List.all_eq_true.mp h.1 j hm
    simpa [hj] using this
  · have := List.all_eq_true.mp h.2 j hm
    simpa [hj] using this
def okMv (O O' : List Nat) (i j : Nat) : Bool := (O'.all fun k => k == i || (O.contains k && !(k == j))) && O.all fun k => k == i || k == j || O'.contains k
theorem omv {O O' : List Nat} {i j : Nat} (h : okMv O O' i j = true) : ∀ k, k ≠ i → (k ∈ O' ↔ k ∈ O ∧ k ≠ j) := fun k hk => by
  simp only [okMv, Bool.and_eq_true] at h
  refine ⟨fun hm => ?_, fun hm => ?_⟩
  · have := List.all_eq_true.mp h.1 k hm
    simpa [hk] using this
  · have := List.all_eq_true.mp h.2 k hm.1
    simpa [hk, hm.2] using this
def okWo (O1 O : List Nat) (i : Nat) : Bool := O1.all fun j => O.contains j && !(j == i)
theorem owo {O1 O : List Nat} {i : Nat} (h : okWo O1 O i = true) : ∀ j, j ∈ O1 → j ∈ O ∧ j ≠ i := fun j hj => by
  have := List.all_eq_true.mp h j hj
  simpa using this
/-- the def x, written at the place st -/
structure DefAt (K : PySem.W.Frag) (mg : Str → Option Value) (x : Str) (st : Stmt) (ps : List Str) where
  f : Addr
  fd : FuncData
  F : Fun K x x st f fd
  b : Binds K fd ps []
  m : mg x = some (.ref f)
  k : PySem.W.keepIn K (.ref f) = true
/-- an exception class with its __init__, which keeps one argument -/
structure ExcDef (K : PySem.W.Frag) (mg : Str → Option Value) (x qual fld : Str) (st : Stmt) (ps : List Str) where
  C : Addr
  f : Addr
  fd : FuncData
  T : OexC K C
  i : PySem.W.findIn K (.ref C) "__init__" = some (some (.ref f))
  t : PySem.W.typeIn K (.ref f) = some (.type "function")
  no : PySem.W.findIn K (.ref C) fld = some none
  F : Fun K "__init__" qual st f fd
  b : Binds K fd ps []
  m : mg x = some (.ref C)
  xf : XfC K C
  te : PySem.W.exmOne K (.ref C) (.ref C) = some true
theorem Red.ev {fr : Fr} {ρ : EX} : Red fr (tE fr ρ) ρ := red_ev
theorem Room.vs {k : Nat} {A : Around} (r : Room k A) : A.units + 64 < cLine := by have := r.un; omega
section
variable {X : Cx} {fs : Fs} {i : Nat} {x : Str} {pos p : Pos} {e : Expr} {t : TE}
/-- a built-in's name for a class -/
theorem pe_tyN {x : Str} {T : String} (hg : Gl X x) (hm : X.mg x = none) (hv : bootBuiltins x = some (.type T)) (hn : x ≠ "__name__" := by decide) (hd : (x == ("__debug__" : Str)) = false := by decide) : PE X (.Name x pos) (tC (.ty T)) :=
  pe_bltn hg hm hv rfl hn hd
end
end VC

/-! VC21: several except clauses, each with its name; a def handed to a def that tells. -/
namespace VC
open PySem PySem.Spec L2 RZ
open PyProof.Rows hiding St

def asEnds (i : Nat) (D : Ends) : Ends := { nx := fun σ' H' => D.nx (σ'.set i none) H', rt := D.rt, bk := fun σ' H' => D.bk (σ'.set i none) H', ct := fun σ' H' => D.ct (σ'.set i none) H' }
def wMas (K : PySem.W.Frag) (Wout : WX) (i : Nat) (D : Ends) : List (Value × (Addr → Value → Option Addr → TS)) → WX
  | [] => Wout
  | (c, ts) :: r => fun cls d σ H => ∃ b, PySem.W.exmOne K cls c = some b ∧ (b = true → ∀ a, H a = none → ts a cls d (asEnds i D) (σ.set i (some (.ref a))) H) ∧ (b = false → wMas K Wout i D r cls d σ H)
inductive HdsAs (X : Cx) (n : Str) : List ExceptHandler → List (Value × (Addr → Value → Option Addr → TS)) → Prop
  | nil : HdsAs X n [] []
  | cons {x : Str} {c : Value} {ts : Addr → Value → Option Addr → TS} {b₀ : Stmt} {suite : List Stmt} {np pos' : Pos} {hds : List ExceptHandler} {l : List (Value × (Addr → Value → Option Addr → TS))} (hc : Names X x c)
      (hsu : ∀ (a : Addr) (oe : Obj) (cls : Value) (d : Option Addr) (pn : List (Addr × Obj)), Zc cls d oe → (∃ vs, oe.data = .fields vs) → PSs (X.suite a ((a, oe) :: pn)) (b₀ :: suite) (ts a cls d)) (r : HdsAs X n hds l) :
      HdsAs X n (.ExceptHandler (some (.Name x np)) (some n) (b₀ :: suite) pos' :: hds) ((c, ts) :: l)
section
variable {X : Cx} {n : Str} {i : Nat} {body : List Stmt} {h₀ : ExceptHandler} {hds : List ExceptHandler} {l : List (Value × (Addr → Value → Option Addr → TS))} {pos : Pos} {tb : WX → TS} {Wout : WX}
theorem ps_try_mas (hs : X.stack = X.env :: X.outer) (hf : X.env.frame = some X.env.locals) (hN : X.N.Nodup) (hi : X.N[i]? = some n) (hln : X.env.kindOf n = some .local) (tk : L2.Takes X Wout)
    (hb : ∀ (W : WX) (pn : List (Addr × Obj)) (xe : Value → Shared → Prop), L2.Takes (X.tr pn xe) W → PassesOwn (model X.prog X.w) X.A X.env xe → PSs (X.tr pn xe) body (tb W))
    (hh : HdsAs X n (h₀ :: hds) l) : PS X (.Try body (h₀ :: hds) [] [] pos) (fun D σ H => tb (wMas X.K Wout i D l) D σ H) := by
  refine ⟨fun pins s σ H D I h => ?_⟩
  have ok := I.ok
  have hfr : X.A.frames = some (X.env :: X.outer) := by rw [ok.frames, hs]
  have hloc : Loc X.env.scope n := .inl hln
  refine wpAny_Try_except ?_
  refine wpAny_mono ((hb (wMas X.K Wout i D l) (X.pn ++ pins) (fun e s₁ => wpAny (model X.prog X.w) X.A (noteFrame e X.env) (fun _ s₂ => wpAny (model X.prog X.w) X.A (setFlight e none) (fun _ s₃ =>
    wpAny (model X.prog X.w) X.A (handleBy e X.env (h₀ :: hds)) (SP X pins D) X.xe s₃) X.xe s₂) X.xe s₁) (fun u s' xx => ?_) PassesOwn.looking).run [] s σ H D (I.toTry _) h) (fun f s1 hsp => ?_) (fun e s1 he => he)
  · obtain ⟨a, B, sI, pins', σ', H', cls, d, rfl, J', nb, up, sky, na, os, ag, w⟩ := xx
    have J : Inv X pins σ' H' sI := J'.ofTry ok
    have sky' : Sky B (X.env :: X.outer) a (Zc cls d) X.env.locals s'.heap := by rw [← hs]; exact sky
    show wpAny (model X.prog X.w) X.A (noteFrame (.ref a) X.env) _ _ _
    refine Sky.land Zc.steady hfr hf sky' fun h3 fl3 up3 => ?_
    have J3 : Inv X pins σ' H' { s' with heap := h3 } := J.landed nb fl3.1 (up.trans up3) os ag
    obtain ⟨oe3, vs3, he3, hz3, hd3⟩ := fl3.there
    have notFr : ∀ {h : Heap} {o : Obj} {vs : Array Value}, h.FunFrames B (X.env :: X.outer) → h.get? a = some o → o.data = .fields vs → a ∉ frs (X.env :: X.outer) := fun {h o vs} ff e dd hm => by
      obtain ⟨_, o', e', hnf⟩ := ff.mem hm
      rw [e] at e'; cases e'
      exact hnf _ dd
    have nfr := notFr fl3.2.2.1 he3 hd3
    have nL : a ≠ X.env.locals := fun z => nfr (List.mem_filterMap.mpr ⟨X.env, List.mem_cons_self, by rw [hf, z]⟩)
    have nF : a ∉ X.fs := fun hm => by
      obtain ⟨e, he, q⟩ := List.mem_filterMap.mp hm
      exact nfr (List.mem_filterMap.mpr ⟨e, List.mem_cons_of_mem _ he, q⟩)
    have S3 := J3.suite he3 hd3 na nL nF
    have go : ∀ {hds' : List ExceptHandler} {l' : List (Value × (Addr → Value → Option Addr → TS))}, HdsAs X n hds' l' → wMas X.K Wout i D l' cls d σ' H' →
        wpAny (model X.prog X.w) X.A (handleBy (.ref a) X.env hds') (SP X pins D) X.xe { s' with heap := h3 } := by
      intro hds' l' hk
      induction hk with
      | nil =>
        intro w
        refine wpAny_handleBy_nil ?_
        obtain ⟨k1, k2, k3, oe, vs, T, oT, ts', he, hz, hd, h1, hr⟩ := id fl3
        unfold PySem.passOn
        refine wpAny_bind (wpAny_field he hd h1 ?_)
        rw [if_neg (show ¬ ((Value.ref T == Value.none) = true) from by simp)]
        have fin : wpAny (model X.prog X.w) X.A (setFlight (.ref a) X.env.frame) (fun _ s4 => wpAny (model X.prog X.w) X.A (throw (.ref a) : Sem Flow) (SP X pins D) X.xe s4) X.xe { s' with heap := h3 } := by
          rw [hf]
          refine HandSPX.setFlight_upZ fl3 fun h4 hh4 up4 => wpAny_throw (tk _ _ ?_)
          exact ⟨a, B, sI, pins, σ', H', cls, d, rfl, J, nb, (up.trans up3).trans up4, .inr (.inr (by rw [hs]; exact hh4)), na, os, ag, w⟩
        first
          | exact wpAny_bind (wpAny_pure (wpAny_bind fin))
          | exact wpAny_bind fin
      | @cons x c ts b₀ suite np pos' hds2 l2 hc hsu r ih =>
        intro w
        obtain ⟨b, hb1, hyes, hno⟩ := w
        refine wpAny_handleBy_cons (codeAny_handlers_test ?_) (by intro q; cases q)
        have LT : PySem.W.Looks (model X.prog X.w) h3 (typeOf (.ref a)) cls := fun A Q E s k q => wpAny_typeOf_ref (k _ _ he3) (by rw [hz3.1]; exact q)
        have LM := PySem.W.exm_one (M := model X.prog X.w) (J3.kIn) LT hb1
        have test : ∀ {Q : Value → Shared → Prop} {E : Value → Shared → Prop}, Q c { s' with heap := h3 } → wpAny (model X.prog X.w) (X.A.mark (some (.ref a))) (eval (.Name x np) X.env) Q E { s' with heap := h3 } := fun {Q E} q => by
          obtain ⟨hg, hdbg, hm | ⟨hm, hv, hnn⟩⟩ := hc
          · exact ld_glob (X := X.suite a ((a, oe3) :: (X.pn ++ pins))) S3 hg hm q hdbg
          · exact ld_blt (X := X.suite a ((a, oe3) :: (X.pn ++ pins))) S3 hg hm hv q hnn hdbg
        refine test (LM.here ?_)
        cases b with
        | true =>
          refine codeAny_handlers_suite_as ?_
          refine HandSPX.lands_againZ fl3 fun h4 fl4 up4 => ?_
          have J4 : Inv X pins σ' H' { s' with heap := h4 } := J.landed nb fl4.1 ((up.trans up3).trans up4) os ag
          obtain ⟨oe4, vs4, he4, hz4, hd4⟩ := fl4.there
          have S4 := J4.suite he4 hd4 na nL nF
          refine store_ok (X := X.suite a ((a, oe4) :: (X.pn ++ pins))) (v := .ref a) S4 hN hi hloc rfl (fun s5 S5 => ?_) (.inr hln)
          refine wpAny_mono ((hsu a oe4 cls d (X.pn ++ pins) hz4 ⟨_, hd4⟩).run [] s5 _ H' _ S5 (hyes rfl a na)) (fun f s6 hsp => ?_) (fun _ _ z => False.elim z)
          have end_ : ∀ {σ6 : St} {H6 : Hp} {Q : Shared → Prop}, Inv (X.suite a ((a, oe4) :: (X.pn ++ pins))) [] σ6 H6 s6 → (∀ s7, Inv X pins (σ6.set i none) H6 s7 → Q s7) →
              wpAny (model X.prog X.w) X.A (do bindName X.env n .none; unbindBehindTheSuite X.env n pos') (fun _ s7 => Q s7) X.xe s6 := fun {σ6 H6 Q} S6 hq => gone_ok (S6.unsuite ok) hN hi hln hq
          cases f with
          | next =>
            obtain ⟨σ6, H6, S6, q6⟩ := hsp
            exact end_ S6 fun s7 J7 => ⟨_, _, J7, q6⟩
          | brk =>
            obtain ⟨σ6, H6, S6, q6⟩ := hsp
            exact end_ S6 fun s7 J7 => ⟨_, _, J7, q6⟩
          | cont =>
            obtain ⟨σ6, H6, S6, q6⟩ := hsp
            exact end_ S6 fun s7 J7 => ⟨_, _, J7, q6⟩
          | ret u =>
            obtain ⟨v6, σ6, H6, S6, r6, q6⟩ := hsp
            exact end_ S6 fun s7 J7 => ⟨_, _, _, J7, r6, q6⟩
        | false =>
          show wpAny _ X.A (handleBy (.ref a) X.env hds2) _ _ _
          exact ih (hno rfl)
    exact go hh w
  · cases f with
    | next =>
      obtain ⟨σ', H', J', q⟩ := hsp
      exact wpAny_execs_nil ⟨σ', H', J'.ofTry ok, q⟩
    | brk =>
      obtain ⟨σ', H', J', q⟩ := hsp
      exact ⟨σ', H', J'.ofTry ok, q⟩
    | cont =>
      obtain ⟨σ', H', J', q⟩ := hsp
      exact ⟨σ', H', J'.ofTry ok, q⟩
    | ret u =>
      obtain ⟨v, σ', H', J', r, q⟩ := hsp
      exact ⟨v, σ', H', J'.ofTry ok, r, q⟩
end
/-! ### told -/
/-- what a catching def makes of an outcome: the error's word is the answer -/
def catchM (m : M D) : M D := fun g => match m g with
  | .exn c p g' => if c = 0 ∨ c = 1 then .ok p g' else .bad
  | o => o
def spTold (β : Bx) (ρ : FX) (fj : Addr) : Sp := fun vs H Q _ => ∃ v1 v2, vs = [.ref fj, v1, v2] ∧ ∃ F g ds, BagOk β F H g ∧ Rs H F β ds [v1, v2] ∧ match catchM (ρ ds) g with
  | .bad => False
  | .ok d g' => ∀ v H' F', Ext β F H F' H' → BagOk β F' H' g' → R H' F' β d v → Q v H'
  | .exn _ _ _ => False
end VC

/-! VC22: the call of a def that stands in a slot; told. -/
namespace VC
open PySem PySem.Spec L2 RZ
open PyProof.Rows hiding St

section
variable {X : Cx} {fr : Fr} {CX : CXT} {k i : Nat} {f : Addr} {fd : FuncData} {ps : List Str} {sp : Sp} {E : St → XK} {x : Str} {p pos : Pos} {e : Expr} {es : List Expr} {t : TA} {ρs : AX}
theorem pe_callLS (F : FnOk X.prog X.w X.K X.mg X.base CX k f fd ps sp) (hr : Room k X.A) (hN : X.N[i]? = some x) (hv : Vis X.env.scope x) (hk : PySem.W.keepIn X.K (.ref f) = true) (hb : Binds X.K fd ps []) (hx : ∀ σ, PassesAt CX X σ (E σ)) (ha : PA X (e :: es) t)
    (hdb : (x == ("__debug__" : Str)) = false := by decide) (hcd : (x == ("__classdict__" : Str)) = false := by decide)
    (he : starEach (e :: es) X.env = (false, eval e X.env) :: starEach es X.env := by rfl) (hpl : (backTo pos (starEach es X.env)).any (·.1) = false := by rfl) :
    PE X (.Call (.Name x p) (e :: es) [] pos) (fun σ H Q => σ[i]? = some (some (.ref f)) ∧ tCallS sp E t σ H Q) := by
  refine ⟨fun pins s σ H Q I h => ?_⟩
  obtain ⟨hs, ht⟩ := h
  refine wpAny_Call_Name_kw (thn ((pe_var (pos := p) hN hv hdb hcd).run pins s σ H (fun v H1 => v = .ref f ∧ H1 = H) I ⟨.ref f, hs, rfl, rfl⟩) fun u s1 ⟨v, H1, I1, r1, q1⟩ => ?_)
  obtain ⟨rfl, rfl⟩ := q1
  cases r1
  refine PySem.W.callWith_K (h₀ := X.base) I.ok.mod.kin hk (thn (ha.run pos pins s1 σ _ _ I1 ht) fun us s2 ⟨vs, H2, I2, r, q⟩ => ⟨I2.kIn, ?_⟩) he hpl
  exact run_fnS F hr hb (hx σ) I2 r q
/-- a def's name as a value -/
theorem pe_fnN (hg : Gl X x) (hm : X.mg x = some (.ref f)) (hdb : (x == ("__debug__" : Str)) = false := by decide) : PE X (.Name x pos) (tC (.ref f)) :=
  ⟨fun pins s σ H Q I h => ld_glob I hg hm ⟨.ref f, H, I, rfl, h⟩ hdb⟩
def toldE (ρ : FX) (ρs : AX) : EX := fun env => M.bnd (ρs env) fun ds => if ds.length = 2 then catchM (ρ ds) else M.bad
theorem ev_told {j : Str} {fj : Addr} {ρj : FX} {pj : Pos} (G : FnOk X.prog X.w X.K X.mg X.base (L2.CX X.prog X.w) k f fd ps (spTold fr.β ρj fj)) (hr : Room k X.A) (hg : Gl X x) (hm : X.mg x = some (.ref f)) (hk : PySem.W.keepIn X.K (.ref f) = true) (hb : Binds X.K fd ps [])
    (hgj : Gl X j) (hmj : X.mg j = some (.ref fj)) (ha : AV X fr es ρs)
    (hdj : (j == ("__debug__" : Str)) = false := by decide) (hdb : (x == ("__debug__" : Str)) = false := by decide) (he : starEach (.Name j pj :: es) X.env = (false, eval (.Name j pj) X.env) :: starEach es X.env := by rfl) (hpl : (backTo pos (starEach es X.env)).any (·.1) = false := by rfl) :
    EV X fr (.Call (.Name x p) (.Name j pj :: es) [] pos) (toldE ρj ρs) := by
  refine ev_of _ _ _ (pe_call G hr hg hm hk hb .nil passL (pa_cons (pe_fnN hgj hmj hdj) ha he) hdb he hpl) fun σ H Q env F g r hgt => ?_
  refine gotLE r hgt fun ds g1 H1 F1 vs ho ex er q hq => ?_
  show spTold fr.β ρj fj ((.ref fj :: vs) ++ []) H1 Q E0
  rw [List.append_nil]
  by_cases hl : ds.length = 2
  · rw [if_pos hl] at hq
    match vs, (show vs.length = 2 by rw [← q.length]; exact hl) with
    | [v1, v2], _ =>
      refine ⟨v1, v2, rfl, F1, g1, ds, er.bag, q, ?_⟩
      cases hc : catchM (ρj ds) g1 with
      | bad => rw [hc] at hq; exact hq
      | ok d g' => rw [hc] at hq; exact hq
      | exn c pp g' =>
        unfold catchM at hc
        split at hc
        · split at hc <;> cases hc
        · rename_i h2
          exact absurd hc (h2 _ _ _)
  · rw [if_neg hl] at hq
    exact (show False from hq).elim
end
end VC

/-! VC23: cells: made, written; dicts with nested keys. -/
namespace VC
open PySem PySem.Spec L2 RZ
open PyProof.Rows hiding St

section
variable {H H' : Hp} {F F' : Reg} {β : Bx} {g g' : Bag}
theorem BagOk.uniq (b : BagOk β F H g) {m n : Nat} {a : Addr} (hm : F.cs[m]? = some a) (hn : F.cs[n]? = some a) : m = n := by
  have hlt := (List.getElem?_eq_some_iff.mp hm).1
  exact (List.getElem?_inj hlt b.nd).mp (hm.trans hn.symm)
/-- a cell is written -/
theorem BagOk.setC (b : BagOk β F H g) {n : Nat} {a : Addr} {c : Cell} {o : HO} (hn : F.cs[n]? = some a) (hc : CellAt (upd H a o) F β a c) (hf : flats c.items = true) : BagOk β F (upd H a o) ⟨g.b, g.cs.set n c⟩ ∧ Ext β F H F (upd H a o) := by
  have ha : a ∈ F.cs := List.mem_of_getElem? hn
  obtain ⟨u, hu, hnt⟩ : ∃ u, H a = some u ∧ ∀ xs, u ≠ .tup xs := by
    obtain ⟨_, _, _, _, q⟩ := b.cellAt ha
    exact q.there
  have hT : ∀ x xs, H x = some (.tup xs) → upd H a o x = some (.tup xs) := fun x xs h => by
    rw [upd_ne (fun z => by rw [z, hu] at h; exact hnt xs (Option.some.inj h))]
    exact h
  refine ⟨⟨fun x f z => ?_, fun x q => ⟨(b.at_ x q).1, ?_⟩, ?_, b.nd, b.nf, fun m x d hm hd => ?_, fun d hd => ?_⟩, ⟨.rfl, fun _ h => .inl h, fun _ h => .inl h, fun x w h _ nc => ?_, fun x z => ?_⟩⟩
  · exact upd_live (b.live x f) z
  · rw [upd_ne (fun z => (b.at_ x q).1 (by rw [z]; exact .inr ha))]
    exact (b.at_ x q).2
  · show F.cs.length = (g.cs.set n c).length
    rw [List.length_set]
    exact b.len
  · have hd : (g.cs.set n c)[m]? = some d := hd
    by_cases e : m = n
    · rw [e] at hm hd
      rw [hn] at hm
      cases hm
      have hl : n < g.cs.length := by rw [← b.len]; exact (List.getElem?_eq_some_iff.mp hn).1
      rw [List.getElem?_set_self hl] at hd
      cases hd
      exact hc
    · rw [List.getElem?_set_ne (Ne.symm e)] at hd
      refine (b.cell m x d hm hd).flatT (b.fl d (List.mem_of_getElem? hd)) hT (fun _ _ h => h) fun w h => ?_
      rw [upd_ne (fun z => e (by rw [z] at hm; exact b.uniq hm hn))]
      exact h
  · rcases List.mem_or_eq_of_mem_set hd with hd | hd
    · exact b.fl d hd
    · rw [hd]; exact hf
  · rw [upd_ne (fun z => nc (by rw [z]; exact ha))]
    exact h
  · by_cases e : x = a
    · rw [e, upd_same] at z; cases z
    · rw [upd_ne e] at z; exact z
theorem BagOk.theCell (b : BagOk β F H g) {n : Nat} {c : Cell} {v : V} (hr : R H F β (.cell n) v) (hc : g.cs[n]? = some c) : ∃ a, v = .ref a ∧ F.cs[n]? = some a ∧ CellAt H F β a c := by
  obtain ⟨a, ha, rfl⟩ := r_cell hr
  exact ⟨a, rfl, ha, b.cell n a c ha hc⟩
end
/-- the cell n -/
def getC (n : Nat) : M Cell := fun g => match g.cs[n]? with
  | some c => .ok c g
  | none => .bad
def setC (n : Nat) (c : Cell) : M Unit := fun g => if flats c.items = true then .ok () ⟨g.b, g.cs.set n c⟩ else .bad
def newC (c : Cell) : M D := fun g => if flats c.items = true then .ok (.cell g.cs.length) ⟨g.b, g.cs ++ [c]⟩ else .bad
def cellNo : D → Option Nat
  | .cell n => some n
  | _ => none
theorem cellNo_some {d : D} {n : Nat} (h : cellNo d = some n) : d = .cell n := by
  cases d <;> first | (cases h; rfl) | cases h
/-! ### operations that may use the cells -/
structure OpLM (X : Cx) (fr : Fr) (f : Value) (q : List D → M D) : Prop where
  at_ : ∀ H F g xs ds d g', BagOk fr.β F H g → Rs H F fr.β ds xs → q ds g = .ok d g' → ∃ r, CallR X f r ∧ r xs H (Hit fr F H g' d)
  nx : ∀ ds g c p g', q ds g ≠ .exn c p g'
structure Op2M (X : Cx) (fr : Fr) (f : Value → Value → Sem Value) (q : D → D → M D) : Prop where
  at_ : ∀ H F g x y d1 d2 d g', BagOk fr.β F H g → R H F fr.β d1 x → R H F fr.β d2 y → q d1 d2 g = .ok d g' → ∃ r, OpR X f r ∧ r x y H (Hit fr F H g' d)
  nx : ∀ d1 d2 g c p g', q d1 d2 g ≠ .exn c p g'
def callM (q : List D → M D) (ρs : AX) : EX := fun env => M.bnd (ρs env) q
def bin2M (q : D → D → M D) (a b : EX) : EX := fun env => M.bnd (a env) fun x => M.bnd (b env) fun y => q x y
theorem got_ok {fr : Fr} {F : Reg} {σ : St} {H : Hp} {Q : VK} {m : M D} {g : Bag} (h : Got fr F σ H Q (m g)) (nx : ∀ c p g', m g ≠ .exn c p g') : ∃ d g', m g = .ok d g' ∧ Got fr F σ H Q (.ok d g') := by
  cases e : m g with
  | bad => rw [e] at h; exact h.elim
  | exn c p g' => exact absurd e (nx c p g')
  | ok d g' => rw [e] at h; exact ⟨d, g', rfl, h⟩
section
variable {X : Cx} {fr : Fr} {pos : Pos} {e a b : Expr} {es : List Expr} {ρs : AX} {ρa ρb : EX}
theorem ev_callBM {x : Str} {id : String} {p : Pos} {q : List D → M D} (ho : OpLM X fr (.builtin id) q) (hg : Gl X x) (hm : X.mg x = none) (hv : bootBuiltins x = some (.builtin id)) (ha : AV X fr (e :: es) ρs) (hn : x ≠ "__name__" := by decide) (hdb : (x == ("__debug__" : Str)) = false := by decide)
    (he : starEach (e :: es) X.env = (false, eval e X.env) :: starEach es X.env := by rfl) (hpl : (backTo pos (starEach es X.env)).any (·.1) = false := by rfl) : EV X fr (.Call (.Name x p) (e :: es) [] pos) (callM q ρs) := by
  refine ⟨fun pins s σ H Q I ⟨env, F, g, r, hgt⟩ => ?_⟩
  refine wpAny_Call_Name_kw (ld_blt I hg hm hv ?_ hn hdb)
  refine PyProof.Rows.callWith_builtin1 (ha.goM I r hgt fun ds g1 us s1 vs H1 F1 I1 rv ex er qs hq => ?_) he hpl
  obtain ⟨d, g2, ed, hq⟩ := got_ok hq (ho.nx ds g1)
  obtain ⟨r', hr, hh⟩ := ho.at_ H1 F1 g1 vs ds d g2 er.bag qs ed
  exact thn (hr pins s1 σ H1 vs us _ I1 rv hh) fun u s' e => ep_imp e fun v H' z => got_hit hq z
theorem ev_callTyM {x : Str} {T : String} {p : Pos} {q : List D → M D} (ho : OpLM X fr (.type T) q) (hg : Gl X x) (hm : X.mg x = none) (hv : bootBuiltins x = some (.type T)) (ha : AV X fr (e :: es) ρs) (hn : x ≠ "__name__" := by decide) (hdb : (x == ("__debug__" : Str)) = false := by decide)
    (he : starEach (e :: es) X.env = (false, eval e X.env) :: starEach es X.env := by rfl) (hpl : (backTo pos (starEach es X.env)).any (·.1) = false := by rfl) : EV X fr (.Call (.Name x p) (e :: es) [] pos) (callM q ρs) := by
  refine ⟨fun pins s σ H Q I ⟨env, F, g, r, hgt⟩ => ?_⟩
  refine wpAny_Call_Name_kw (ld_blt I hg hm hv ?_ hn hdb)
  refine PyProof.Rows.callWith_type1 (ha.goM I r hgt fun ds g1 us s1 vs H1 F1 I1 rv ex er qs hq => ?_) he hpl
  obtain ⟨d, g2, ed, hq⟩ := got_ok hq (ho.nx ds g1)
  obtain ⟨r', hr, hh⟩ := ho.at_ H1 F1 g1 vs ds d g2 er.bag qs ed
  exact thn (hr pins s1 σ H1 vs us _ I1 rv hh) fun u s' e => ep_imp e fun v H' z => got_hit hq z
theorem bin_goM {f : Value → Value → Sem Value} {q : D → D → M D} (ho : Op2M X fr f q) (ha : EV X fr a ρa) (hb : EV X fr b ρb) {pins : List (Addr × Obj)} {s : Shared} {σ : St} {H : Hp} {Q : VK} {env : Slots} {F : Reg} {g : Bag}
    (I : Inv X pins σ H s) (r : ER fr F env σ H g) (hg : Got fr F σ H Q (bin2M q ρa ρb env g)) :
    wpAny (model X.prog X.w) X.A (eval a X.env) (fun v s₁ => wpAny (model X.prog X.w) X.A (eval b X.env) (fun u s₂ => wpAny (model X.prog X.w) X.A (f v u) (EP X pins σ Q) X.xe s₂) X.xe s₁) X.xe s := by
  refine ha.goM I r hg fun d1 g1 u1 s1 v1 H1 F1 I1 rv1 ex1 er1 q1 hg1 => hb.goM I1 er1 hg1 fun d2 g2 u2 s2 v2 H2 F2 I2 rv2 ex2 er2 q2 hg2 => ?_
  obtain ⟨d, g3, ed, hg3⟩ := got_ok hg2 (ho.nx d1 d2 g2)
  obtain ⟨r', hr, hq⟩ := ho.at_ H2 F2 g2 v1 v2 d1 d2 d g3 er2.bag (q1.ext er1.bag ex2) q2 ed
  exact thn (hr pins s2 σ H2 v1 v2 u1 u2 _ I2 rv1 rv2 hq) fun u s' e => ep_imp e fun v H' z => got_hit hg3 z
theorem ev_cmpM {op : CmpOp} {q : D → D → M D} (ho : Op2M X fr (compareOp op) q) (ha : EV X fr a ρa) (hb : EV X fr b ρb) (hm : behindInMarks op b = false) : EV X fr (.Compare a [op] [b] pos) (bin2M q ρa ρb) :=
  ⟨fun pins s σ H Q I ⟨env, F, g, r, hg⟩ => wpAny_Compare1 (bin_goM ho ha hb I r hg) hm⟩
/-- a new thing as a cell -/
def cellOf : D → Option Cell
  | .lst xs => some (.lst xs)
  | .dK ks xs => some (.dK ks xs)
  | .dT ks xs => some (.dT ks xs)
  | _ => none
def cellE (ρ : EX) : EX := fun env => M.bnd (ρ env) fun d => M.bnd (M.ofO (cellOf d)) newC
theorem newC_nx {c : Cell} {g g' : Bag} {k : Nat} {p : D} : newC c g ≠ .exn k p g' := by
  unfold newC
  split <;> exact fun z => by cases z
theorem newC_ok {c : Cell} {g g' : Bag} {d : D} (h : newC c g = .ok d g') : flats c.items = true ∧ d = .cell g.cs.length ∧ g' = ⟨g.b, g.cs ++ [c]⟩ := by
  unfold newC at h
  split at h
  · rename_i hf
    cases h
    exact ⟨hf, rfl, rfl⟩
  · cases h
/-- a cell is kept beside: the address is new -/
theorem addCell {F F' : Reg} {H H' : Hp} {g : Bag} {a : Addr} {c : Cell} (e : Ext fr.β F H F' H') (b : BagOk fr.β F' H' g) (n : H a = none) (nf : ¬ F' a) (nb : some a ≠ fr.β.ad) (ha : CellAt H' F' fr.β a c) (hf : flats c.items = true) :
    Ext fr.β F H (F'.add a) H' ∧ BagOk fr.β (F'.add a) H' ⟨g.b, g.cs ++ [c]⟩ ∧ R H' (F'.add a) fr.β (.cell g.cs.length) (.ref a) := by
  have le := Reg.le.add F' a
  refine ⟨⟨e.mono.trans le, e.newf, fun x m => (List.mem_append.mp m).elim (e.newc x) fun m => .inr (by rw [List.mem_singleton.mp m]; exact n), e.keep, e.there⟩, ⟨fun x f => (Reg.in_add.mp f).elim (b.live x) fun z => ?_, fun x q => ⟨fun f => (Reg.in_add.mp f).elim (b.at_ x q).1 fun z => nb (by rw [← z]; exact q.symm), (b.at_ x q).2⟩, ?_, ?_, fun x m f => (List.mem_append.mp m).elim (fun m => b.nf x m f) fun m => nf (by rw [← List.mem_singleton.mp m]; exact .inl f), fun m x d hm hd => ?_, fun d hd => ?_⟩, ?_⟩
  · obtain ⟨u, hu, _⟩ := ha.there
    rw [z, hu]
    exact fun z => nomatch z
  · show (F'.cs ++ [a]).length = (g.cs ++ [c]).length
    rw [List.length_append, List.length_append, b.len]
    rfl
  · show (F'.cs ++ [a]).Nodup
    rw [List.nodup_append]
    exact ⟨b.nd, by simp, fun x hx y hy e => nf (by rw [List.mem_singleton.mp hy] at e; rw [← e]; exact .inr hx)⟩
  · have hm : (F'.cs ++ [a])[m]? = some x := hm
    have hd : (g.cs ++ [c])[m]? = some d := hd
    by_cases hl : m < F'.cs.length
    · rw [List.getElem?_append_left hl] at hm
      rw [List.getElem?_append_left (by rw [← b.len]; exact hl)] at hd
      exact (b.cell m x d hm hd).flat_ (b.fl d (List.mem_of_getElem? hd)) fun _ _ => le.at
    · rw [List.getElem?_append_right (Nat.le_of_not_lt hl)] at hm
      rw [List.getElem?_append_right (by rw [← b.len]; exact Nat.le_of_not_lt hl), ← b.len] at hd
      cases hk : m - F'.cs.length with
      | zero =>
        rw [hk] at hm hd
        cases hm
        cases hd
        exact ha.flat_ hf fun _ _ => le.at
      | succ k => rw [hk] at hm; simp at hm
  · rcases List.mem_append.mp hd with hd | hd
    · exact b.fl d hd
    · rw [List.mem_singleton.mp hd]; exact hf
  · unfold R
    exact ⟨a, by show (F'.cs ++ [a])[g.cs.length]? = some a; rw [← b.len, List.getElem?_append_right (Nat.le_refl _), Nat.sub_self]; rfl, rfl⟩
theorem ev_cell (h : EVN X fr e ρa) : EV X fr e (cellE ρa) := by
  refine ⟨fun pins s σ H Q I ⟨env, F, g, r, hg⟩ => h.run pins s σ H Q I ⟨env, F, g, r, ?_⟩⟩
  rcases got_bnd hg with ⟨d, g1, ho, hg⟩ | ⟨c, p, g', ho, hg⟩
  case inr => rw [ho]; exact hg
  rw [ho]
  intro v H' F' ex b n
  obtain ⟨c, hc, hg⟩ : ∃ c, cellOf d = some c ∧ Got fr F σ H Q (newC c g1) := by
    cases hc : cellOf d with
    | none => rw [hc] at hg; exact (show False from hg).elim
    | some c => rw [hc] at hg; exact ⟨c, rfl, hg⟩
  obtain ⟨d2, g2, ed, hg⟩ := got_ok hg (fun _ _ _ => newC_nx)
  obtain ⟨hf, rfl, rfl⟩ := newC_ok ed
  cases d with
  | lst xs =>
    cases hc
    obtain ⟨a, vs, rfl, n, nf, nb, h1, r⟩ := n
    obtain ⟨e2, b2, r2⟩ := addCell ex b n nf nb (c := .lst xs) ⟨vs, h1, r⟩ hf
    exact hg _ H' _ e2 b2 r2
  | dK ks xs =>
    cases hc
    obtain ⟨a, kv, rfl, n, nf, nb, h1, ek, r⟩ := n
    obtain ⟨e2, b2, r2⟩ := addCell ex b n nf nb (c := .dK ks xs) ⟨kv, h1, ek, r⟩ hf
    exact hg _ H' _ e2 b2 r2
  | dT ks xs =>
    cases hc
    obtain ⟨a, kv, rfl, n, nf, nb, h1, ek, r⟩ := n
    obtain ⟨e2, b2, r2⟩ := addCell ex b n nf nb (c := .dT ks xs) ⟨kv, h1, ek, r⟩ hf
    exact hg _ H' _ e2 b2 r2
  | _ => cases hc
end
/-! ### nested keys -/
mutual
def keyN : D → Option NestedKey
  | .non => some .none
  | .bl b => some (.num (if b = true then 1 else 0))
  | .int i => some (.num i)
  | .str x => some (.text x)
  | .tup xs => (keyNs xs).map .tup
  | _ => none
def keyNs : List D → Option (List NestedKey)
  | [] => some []
  | d :: r => (keyN d).bind fun k => (keyNs r).map (k :: ·)
end
section
variable {H : Hp} {F : Reg} {β : Bx}
mutual
theorem keyN_nk : ∀ (d : D) (k : NestedKey) (v : V), keyN d = some k → R H F β d v → NK H k v
  | .non, k, v, h, r => by rw [r_non r]; cases h; exact .non
  | .bl b, k, v, h, r => by rw [r_bl r]; cases h; exact .bl b
  | .int i, k, v, h, r => by rw [r_int r]; cases h; exact .int i
  | .str x, k, v, h, r => by rw [r_str r]; cases h; exact .str x
  | .tup xs, k, v, h, r => by
    unfold keyN at h
    obtain ⟨ks, hk, rfl⟩ := Option.map_eq_some_iff.mp h
    obtain ⟨a, vs, rfl, h1, q⟩ := r_tup r
    obtain ⟨hl, hp⟩ := keyNs_nk xs ks vs hk q
    exact .tup h1 hl hp
  | .lst _, k, v, h, r => by simp [keyN] at h
  | .dK _ _, k, v, h, r => by simp [keyN] at h
  | .dT _ _, k, v, h, r => by simp [keyN] at h
  | .bag, k, v, h, r => by simp [keyN] at h
  | .cell _, k, v, h, r => by simp [keyN] at h
theorem keyNs_nk : ∀ (ds : List D) (ks : List NestedKey) (vs : List V), keyNs ds = some ks → Rs H F β ds vs → ks.length = vs.length ∧ ∀ (i : Nat) (k : NestedKey) (v : V), ks[i]? = some k → vs[i]? = some v → NK H k v
  | [], ks, vs, h, r => by
    unfold keyNs at h
    unfold Rs at r
    cases h
    subst r
    exact ⟨rfl, fun i k v h => by simp at h⟩
  | d :: ds, ks, vs, h, r => by
    unfold keyNs at h
    obtain ⟨k, hk, h⟩ := Option.bind_eq_some_iff.mp h
    obtain ⟨ks', hks, rfl⟩ := Option.map_eq_some_iff.mp h
    obtain ⟨v, vs', rfl, r1, r2⟩ := r.uncons
    obtain ⟨hl, hp⟩ := keyNs_nk ds ks' vs' hks r2
    refine ⟨by simp [hl], fun i k2 v2 h1 h2 => ?_⟩
    cases i with
    | zero => cases h1; cases h2; exact keyN_nk d k v hk r1
    | succ i => exact hp i k2 v2 (by simpa using h1) (by simpa using h2)
end
end
/-- a tuple as a key -/
def keyNT (d : D) : Option NestedKey := match d with
  | .tup xs => (keyN (.tup xs)).bind fun k => if k.depth ≤ 8 then some k else none
  | _ => none
theorem keyNT_some {H : Hp} {F : Reg} {β : Bx} {d : D} {k : NestedKey} {v : V} (h : keyNT d = some k) (r : R H F β d v) : ∃ b, v = .ref b ∧ NK H k (.ref b) ∧ k.depth ≤ 8 := by
  unfold keyNT at h
  split at h
  · rename_i xs
    obtain ⟨q, hq, h⟩ := Option.bind_eq_some_iff.mp h
    split at h
    · rename_i hd
      cases h
      have nk := keyN_nk _ _ _ hq r
      obtain ⟨a, vs, rfl, _⟩ := r_tup r
      exact ⟨a, rfl, nk, hd⟩
    · cases h
  · cases h
theorem nested_all {h : Heap} : ∀ {ks : List NestedKey} {vs : List V} {us : List Value}, ks.length = vs.length → (∀ (i : Nat) (k : NestedKey) (v : V), ks[i]? = some k → vs[i]? = some v → ∀ u, RelV v u → NestedIs h k u) → Vals vs us → NestedAll h ks us
  | [], [], _, _, _, .nil => .nil
  | [], _ :: _, _, hl, _, _ => by simp at hl
  | _ :: _, [], _, hl, _, _ => by simp at hl
  | k :: ks, v :: vs, _, hl, hp, .cons r t => .cons (hp 0 k v rfl rfl _ r) (nested_all (by simpa using hl) (fun i k v h1 h2 => hp (i + 1) k v (by simpa using h1) (by simpa using h2)) t)
theorem nk_is {P : Program} {w : World} {H : Hp} {h : Heap} (ok : HOk P w H h) {k : NestedKey} {v : V} (n : NK H k v) : ∀ u, RelV v u → NestedIs h k u := by
  induction n with
  | non => intro u r; cases (show u = Value.none from r); exact .none
  | bl b => intro u r; cases (show u = Value.bool b from r); exact .bool rfl
  | int i => intro u r; obtain ⟨t, rfl⟩ := (show ∃ t, u = Value.int i t from r); exact .int i t
  | str x => intro u r; obtain ⟨t, rfl⟩ := (show ∃ t, u = Value.str x t from r); exact .text x t
  | tup h1 h2 _ ih =>
    intro u r
    rename_i a vs ks _
    cases (show u = Value.ref a from r)
    obtain ⟨_, its, rv, o, e1, e2, n, e3⟩ := (show ObjOk P w H h a (.tup vs) from ok a _ h1)
    exact .tup e1 e2 e3 (by simpa using nested_all h2 ih rv)
/-! ### the dict with nested keys as it lies -/
abbrev EN := NestedKey × Addr × V
def RelN (p : EN) (q : NestedKey × Addr × Value) : Prop := p.1 = q.1 ∧ p.2.1 = q.2.1 ∧ RelV p.2.2 q.2.2
def kvN (es : List EN) : List (NestedKey × V) := es.map fun e => (e.1, e.2.2)
theorem dn_at {P : Program} {w : World} {H : Hp} {h : Heap} (ok : HOk P w H h) {a : Addr} {es : List EN} (e : H a = some (.ext (dictN w a es))) (hk : ∀ e ∈ es, NK H e.1 (.ref e.2.1) ∧ e.1.depth ≤ 8) :
    es.length ≤ sizeLine ∧ (a == sysModules) = false ∧ ∃ xs, Paired RelN es xs ∧ h.DictOfH (nestedKind P w) a xs := by
  obtain ⟨⟨hl, hs, xs, rel, o, ds, ep, h1, h2, h3, h4, h5⟩, _, _⟩ := (show ObjOk P w H h a (.ext (dictN w a es)) from ok a _ e)
  refine ⟨hl, hs, xs, rel, o, ds, ep, h1, h2, h3, h4, ?_, h5⟩
  have all : ∀ {l : List EN} {m : List (NestedKey × Addr × Value)}, Paired RelN l m → (∀ e ∈ l, NK H e.1 (.ref e.2.1) ∧ e.1.depth ≤ 8) → ∀ x ∈ m, (nestedKind P w).is h x.1 x.2.1 := by
    intro l m q
    induction q with
    | nil => intro _ x hx; exact nomatch hx
    | @cons p q ps qs hq t ih =>
      intro hk x hx
      rcases List.mem_cons.mp hx with e | hx
      · subst e
        obtain ⟨n, d⟩ := hk p List.mem_cons_self
        rw [hq.1, hq.2.1] at n
        rw [hq.1] at d
        exact ⟨nk_is ok n _ rfl, d⟩
      · exact ih (fun e he => hk e (List.mem_cons_of_mem _ he)) x hx
  exact all rel hk
theorem dn_new {P : Program} {w : World} {H : Hp} {h : Heap} {a : Addr} {es : List EN} {xs : List (NestedKey × Addr × Value)} (hl : es.length ≤ sizeLine) (hs : (a == sysModules) = false) (rel : Paired RelN es xs) (dd : h.DictOfH (nestedKind P w) a xs) : ObjOk P w H h a (.ext (dictN w a es)) := by
  obtain ⟨o, ds, ep, h1, h2, h3, h4, _, h5⟩ := dd
  refine ⟨⟨hl, hs, xs, rel, o, ds, ep, h1, h2, h3, h4, h5⟩, ⟨o, h1⟩, fun a1 a2 p k => ?_⟩
  obtain ⟨hl, hs, xs, rel, o, ds, ep, h1, h2, h3, h4, h5⟩ := p
  exact ⟨hl, hs, xs, rel, o, ds, ep, k o h1, h2, h3, h4, h5⟩
/-- what lies at a key -/
theorem relN_val {es : List EN} {xs : List (NestedKey × Addr × Value)} (r : Paired RelN es xs) (k : NestedKey) : RelO (valV (kvN es) k) ((atKey xs k).map (·.2)) := by
  induction r with
  | nil => exact trivial
  | @cons p q ps qs hq t ih =>
    unfold kvN at ih ⊢
    rw [List.map_cons]
    by_cases z : p.1 = k
    · rw [valV_pos z]
      unfold atKey
      rw [List.find?_cons_of_pos (by simpa [← hq.1] using z)]
      exact hq.2.2
    · rw [valV_neg z]
      have : atKey (q :: qs) k = atKey qs k := by
        unfold atKey
        rw [List.find?_cons_of_neg (by simpa [← hq.1] using z)]
      rw [this]
      exact ih
end VC

/-! VC24: cells: dicts: new, in, [], setdefault, len. -/
namespace VC
open PySem PySem.Spec L2 RZ
open PyProof.Rows hiding St

/-! ### the heap's side: nested keys -/
section
variable {X : Cx} {pins : List (Addr × Obj)} {σ : St} {H : Hp} {s : Shared} {a b : Addr} {es : List EN} {k : NestedKey} {A : Around} {E : Value → Shared → Prop} {v d : V} {r : Value}
theorem nkey (I : Inv X pins σ H s) (nk : NK H k (.ref b)) (dk : k.depth ≤ 8) : (nestedKind X.prog X.w).is s.heap k b := ⟨nk_is I.hok nk _ rfl, dk⟩
def AllN (H : Hp) (es : List EN) : Prop := ∀ e ∈ es, NK H e.1 (.ref e.2.1) ∧ e.1.depth ≤ 8
theorem dn_in {Q : Value → Shared → Prop} (hu : A.units + 64 < cLine) (I : Inv X pins σ H s) (e : H a = some (.ext (dictN X.w a es))) (hk : AllN H es) (nk : NK H k (.ref b)) (dk : k.depth ≤ 8) (h : ∀ s', Inv X pins σ H s' → Q (.bool (valV (kvN es) k).isSome) s') :
    wpAny (model X.prog X.w) A (compareOp .In (.ref b) (.ref a)) Q E s := by
  obtain ⟨_, hd, xs, rel, dd⟩ := dn_at I.hok e hk
  refine wpAny_in_heap (knd := nestedKind X.prog X.w) (show A.units + 1 + 8 < cLine by omega) (nkey I nk dk) hd dd ?_
  have q := (relN_val rel k).isSome_eq
  rw [Option.isSome_map] at q
  rw [← q]
  exact h _ (I.tok _)
theorem dn_notIn {Q : Value → Shared → Prop} (hu : A.units + 64 < cLine) (I : Inv X pins σ H s) (e : H a = some (.ext (dictN X.w a es))) (hk : AllN H es) (nk : NK H k (.ref b)) (dk : k.depth ≤ 8) (h : ∀ s', Inv X pins σ H s' → Q (.bool (!(valV (kvN es) k).isSome)) s') :
    wpAny (model X.prog X.w) A (compareOp .NotIn (.ref b) (.ref a)) Q E s := by
  obtain ⟨_, hd, xs, rel, dd⟩ := dn_at I.hok e hk
  refine wpAny_notIn_heap (knd := nestedKind X.prog X.w) (show A.units + 1 + 8 < cLine by omega) (nkey I nk dk) hd dd ?_
  have q := (relN_val rel k).isSome_eq
  rw [Option.isSome_map] at q
  rw [← q]
  exact h _ (I.tok _)
theorem dn_getItem {Q : Value → Shared → Prop} (hu : A.units + 64 < cLine) (I : Inv X pins σ H s) (e : H a = some (.ext (dictN X.w a es))) (hk : AllN H es) (nk : NK H k (.ref b)) (dk : k.depth ≤ 8) (hv : valV (kvN es) k = some v) (h : ∀ w' s', Inv X pins σ H s' → RelV v w' → Q w' s') :
    wpAny (model X.prog X.w) A (getItem (.ref a) (.ref b)) Q E s := by
  obtain ⟨_, hd, xs, rel, dd⟩ := dn_at I.hok e hk
  obtain ⟨w', hw, rw'⟩ := RelO.some_of (v := v) (o := (atKey xs k).map (·.2)) (by rw [← hv]; exact relN_val rel k)
  obtain ⟨p, hp, hp2⟩ := Option.map_eq_some_iff.mp hw
  refine wpAny_getItem_heap (knd := nestedKind X.prog X.w) (show A.units + 1 + 8 < cLine by omega) (nkey I nk dk) dd hp ?_
  rw [hp2]
  exact h w' _ (I.tok _) rw'
theorem RelN.snoc {xs : List (NestedKey × Addr × Value)} (rel : Paired RelN es xs) (rd : RelV d r) : Paired RelN (es ++ [(k, b, d)]) (xs ++ [(k, b, r)]) := Paired.snoc rel ⟨rfl, rfl, rd⟩
theorem dn_setd {Q : Value → Shared → Prop} (hu : A.units + 64 < cLine) (I : Inv X pins σ H s) (e : H a = some (.ext (dictN X.w a es))) (hk : AllN H es) (nk : NK H k (.ref b)) (dk : k.depth ≤ 8) (rd : RelV d r) (hl : es.length < sizeLine)
    (h1 : ∀ v, valV (kvN es) k = some v → ∀ (w' : Value) (s' : Shared), Inv X pins σ H s' → RelV v w' → Q w' s')
    (h2 : valV (kvN es) k = none → ∀ (s' : Shared), Inv X pins σ (upd H a (.ext (dictN X.w a (es ++ [(k, b, d)])))) s' → Q r s') :
    wpAny (model X.prog X.w) A (call (.builtin "dict.setdefault") [.ref a, .ref b, r]) Q E s := by
  obtain ⟨_, hd, xs, rel, dd⟩ := dn_at I.hok e hk
  have hlx : es.length = xs.length := Paired.length rel
  refine call_setdefault_heap (knd := nestedKind X.prog X.w) (hsz := by omega) (show A.units + 1 + 8 < cLine by omega) (nkey I nk dk) hd dd (fun p hp => ?_) fun hn h' dd' hs => ?_
  · have q := relN_val rel k
    rw [hp] at q
    cases q0 : valV (kvN es) k with
    | none => rw [q0] at q; exact (show False from q).elim
    | some v0 => rw [q0] at q; exact h1 v0 q0 _ _ (I.tok _) q
  · have q := relN_val rel k
    rw [hn] at q
    cases q0 : valV (kvN es) k with
    | some v0 => rw [q0] at q; exact (show False from q).elim
    | none =>
      rw [storedH_new hn] at dd'
      have he : ∃ q, h'.get? a = some q := let ⟨q, _, _, hq, _⟩ := dd'; ⟨q, hq⟩
      exact h2 q0 _ (d_write I (by rw [e]; exact True.intro) hs he (dn_new (by rw [List.length_append, List.length_singleton]; omega) hd (RelN.snoc rel rd) dd'))
theorem dn_len {Q : Value → Shared → Prop} (I : Inv X pins σ H s) (e : H a = some (.ext (dictN X.w a es))) (hk : AllN H es) (h : ∀ t s', Inv X pins σ H s' → Q (.int es.length t) s') : wpAny (model X.prog X.w) A (call (.builtin "len") [.ref a]) Q E s := by
  obtain ⟨z, hd, xs, rel, dd⟩ := dn_at I.hok e hk
  have hl : es.length = xs.length := Paired.length rel
  refine call_len_dictH hd dd (by rw [← hl]; rw [sizeLine_eq] at z; omega) ?_
  rw [← hl]
  exact h _ _ (I.tok _)
/-- d[k] = v: the entries behind it -/
def putEN (es : List EN) (k : NestedKey) (b : Addr) (v : V) : List EN := if (valV (kvN es) k).isSome = true then es.map fun e => if e.1 = k then (e.1, e.2.1, v) else e else es ++ [(k, b, v)]
theorem relN_put {xs : List (NestedKey × Addr × Value)} (rel : Paired RelN es xs) (rd : RelV d r) : Paired RelN (putEN es k b d) (storedH xs k b r) := by
  have e : (valV (kvN es) k).isSome = (atKey xs k).isSome := by rw [(relN_val rel k).isSome_eq, Option.isSome_map]
  unfold putEN storedH
  rw [e]
  by_cases q : (atKey xs k).isSome = true
  · rw [if_pos q, if_pos q]
    clear e q
    induction rel with
    | nil => exact .nil
    | @cons p q ps qs h t ih =>
      rw [List.map_cons, List.map_cons]
      refine .cons ?_ ih
      obtain ⟨h1, h2, h3⟩ := h
      unfold putAt
      by_cases e : p.1 = k
      · rw [if_pos e, if_pos (h1.symm.trans e)]; exact ⟨h1, h2, rd⟩
      · rw [if_neg e, if_neg (fun z => e (h1.trans z))]; exact ⟨h1, h2, h3⟩
  · rw [if_neg q, if_neg q]
    exact RelN.snoc rel rd
theorem putEN_len : (putEN es k b v).length ≤ es.length + 1 := by
  unfold putEN
  split
  · rw [List.length_map]; exact Nat.le_succ _
  · rw [List.length_append]; exact Nat.le_refl _
theorem dn_setItem {Q : Unit → Shared → Prop} (hu : A.units + 64 < cLine) (I : Inv X pins σ H s) (e : H a = some (.ext (dictN X.w a es))) (hk : AllN H es) (nk : NK H k (.ref b)) (dk : k.depth ≤ 8) (rd : RelV d r) (hl : es.length < sizeLine)
    (h : ∀ s', Inv X pins σ (upd H a (.ext (dictN X.w a (putEN es k b d)))) s' → Q () s') : wpAny (model X.prog X.w) A (setItem (.ref a) (.ref b) r) Q E s := by
  obtain ⟨_, hd, xs, rel, dd⟩ := dn_at I.hok e hk
  have hlx : es.length = xs.length := Paired.length rel
  refine wpAny_setItem_heap (knd := nestedKind X.prog X.w) (hsz := by omega) (show A.units + 1 + 8 < cLine by omega) (nkey I nk dk) dd fun h' dd' hs => h _ ?_
  have he : ∃ q, h'.get? a = some q := let ⟨q, _, _, hq, _⟩ := dd'; ⟨q, hq⟩
  exact d_write I (by rw [e]; exact True.intro) hs he (dn_new (by have := putEN_len (es := es) (k := k) (b := b) (v := d); omega) hd (relN_put rel rd) dd')
end
theorem kvN_keys (es : List EN) : (kvN es).map (·.1) = es.map (·.1) := by unfold kvN; rw [List.map_map]; rfl
theorem kvN_vals (es : List EN) : (kvN es).map (·.2) = es.map (·.2.2) := by unfold kvN; rw [List.map_map]; rfl
/-! ### {} -/
def newNE : EX := fun _ => newC (.dN [] [])
section
variable {X : Cx} {fr : Fr} {pos : Pos}
theorem ev_newN (hw : fr.β.w = X.w) : EV X fr (.Dict [] [] pos) newNE := by
  refine ⟨fun pins s σ H Q I ⟨env, F, g, r, hg⟩ => ?_⟩
  have hn := I.hok.fresh (Nat.le_refl s.heap.objs.size)
  have new : ObjOk X.prog X.w (upd H s.heap.objs.size (.ext (dictN X.w s.heap.objs.size []))) (s.heap.push { cls := .type "dict", data := .dict #[] }) s.heap.objs.size (.ext (dictN X.w s.heap.objs.size [])) :=
    dn_new (Nat.zero_le _) (beq_eq_false_iff_ne.mpr (Ne.symm (Nat.ne_of_lt I.big))) .nil (Heap.DictOfH.new s.heap)
  refine wpAny_Dict_empty ⟨.ref s.heap.objs.size, _, I.laid (a := s.heap.objs.size) (t' := s.toks) (fun _ _ q => Heap.get?_push_of_some _ q) (Nat.le_refl _) new, rfl, ?_⟩
  obtain ⟨d, g2, ed, hg⟩ := got_ok (m := newNE env) hg (fun _ _ _ => newC_nx)
  obtain ⟨hf, rfl, rfl⟩ := newC_ok ed
  have hc : CellAt (upd H s.heap.objs.size (.ext (dictN X.w s.heap.objs.size []))) (F.add s.heap.objs.size) fr.β s.heap.objs.size (.dN [] []) := ⟨[], by rw [hw, upd_same], (fun _ z => nomatch z), rfl, Rs.nil⟩
  refine hg _ _ _ (Ext.putC hn) (r.bag.putC hn hc hf) ?_
  unfold R
  exact ⟨_, by show (F.cs ++ [_])[g.cs.length]? = _; rw [← r.bag.len, List.getElem?_append_right (Nat.le_refl _), Nat.sub_self]; rfl, rfl⟩
end
/-! ### what a cell holds at a key -/
def hasC (c : Cell) (k : D) : Option Bool := match c with
  | .dK ks xs => (keyD k).map fun k => (valX ks xs k).isSome
  | .dT ks xs => (keyT k).map fun k => (valX ks xs k).isSome
  | .dN ks xs => (keyNT k).map fun k => (valX ks xs k).isSome
  | _ => none
def getCk (c : Cell) (k : D) : Option D := match c with
  | .dK ks xs => (keyD k).bind fun k => valX ks xs k
  | .dT ks xs => (keyT k).bind fun k => valX ks xs k
  | .dN ks xs => (keyNT k).bind fun k => valX ks xs k
  | _ => none
def inM (k d : D) : M D := fun g => match cellNo d with
  | some n => match g.cs[n]?.bind fun c => hasC c k with
    | some b => .ok (.bl b) g
    | none => .bad
  | none => .bad
def notInM (k d : D) : M D := fun g => match cellNo d with
  | some n => match g.cs[n]?.bind fun c => hasC c k with
    | some b => .ok (.bl (!b)) g
    | none => .bad
  | none => .bad
section
variable {X : Cx} {fr : Fr} {pos : Pos} {H : Hp} {F : Reg} {g : Bag}
theorem hit_cell {k d e : D} {m : D → D → M D} {g' : Bag} {f : Bool → Bool} (h : (match cellNo d with
  | some n => match g.cs[n]?.bind fun c => hasC c k with
    | some b => Out.ok (D.bl (f b)) g
    | none => .bad
  | none => .bad) = .ok e g') : ∃ n c b, d = .cell n ∧ g.cs[n]? = some c ∧ hasC c k = some b ∧ e = .bl (f b) ∧ g' = g := by
  split at h
  · rename_i n hn
    split at h
    · rename_i b hb
      obtain ⟨c, hc, hb⟩ := Option.bind_eq_some_iff.mp hb
      cases h
      exact ⟨n, c, b, cellNo_some hn, hc, hb, rfl, rfl⟩
    · cases h
  · cases h
/-- what is asked of a key in a dict of any kind -/
inductive KeyAt (w : World) (H : Hp) (a : Addr) (y : V) (o : Option V) : Prop
  | d (h : DGet H a y o)
  | n (es : List EN) (k : NestedKey) (b : Addr) (e : H a = some (.ext (dictN w a es))) (hk : AllN H es) (hy : y = .ref b) (nk : NK H k (.ref b)) (dk : k.depth ≤ 8) (ho : o = valV (kvN es) k)
theorem hasC_at {β : Bx} {a : Addr} {c : Cell} {k : D} {y : V} {b : Bool} (hc : CellAt H F β a c) (q : R H F β k y) (h : hasC c k = some b) : ∃ o, KeyAt β.w H a y o ∧ o.isSome = b := by
  cases c with
  | dK ks xs =>
    obtain ⟨z, hz, rfl⟩ := Option.map_eq_some_iff.mp h
    obtain ⟨kv, h1, rfl, rr⟩ := hc
    exact ⟨_, .d (.inl ⟨kv, z, .inl h1, (keyD_some hz q).1, rfl⟩), valX_isSome rr⟩
  | dT ks xs =>
    obtain ⟨z, hz, rfl⟩ := Option.map_eq_some_iff.mp h
    obtain ⟨kv, h1, rfl, rr⟩ := hc
    obtain ⟨b, rfl, hb, _⟩ := keyT_some hz q
    exact ⟨_, .d (.inr ⟨kv, z, b, .inl h1, rfl, hb, rfl⟩), valX_isSome rr⟩
  | dN ks xs =>
    obtain ⟨z, hz, rfl⟩ := Option.map_eq_some_iff.mp h
    obtain ⟨es, h1, hk, rfl, rr⟩ := hc
    obtain ⟨b, rfl, nk, dk⟩ := keyNT_some hz q
    rw [← kvN_vals] at rr
    rw [← kvN_keys]
    exact ⟨_, .n es z b h1 hk rfl nk dk rfl, valX_isSome rr⟩
  | _ => cases h
theorem getCk_at {β : Bx} {a : Addr} {c : Cell} {k x : D} {y : V} (hc : CellAt H F β a c) (q : R H F β k y) (h : getCk c k = some x) : ∃ v, KeyAt β.w H a y (some v) ∧ R H F β x v := by
  cases c with
  | dK ks xs =>
    obtain ⟨z, hz, h⟩ := Option.bind_eq_some_iff.mp h
    obtain ⟨kv, h1, rfl, rr⟩ := hc
    obtain ⟨u, hu, ru⟩ := valX_some rr h
    exact ⟨u, .d (.inl ⟨kv, z, .inl h1, (keyD_some hz q).1, hu.symm⟩), ru⟩
  | dT ks xs =>
    obtain ⟨z, hz, h⟩ := Option.bind_eq_some_iff.mp h
    obtain ⟨kv, h1, rfl, rr⟩ := hc
    obtain ⟨u, hu, ru⟩ := valX_some rr h
    obtain ⟨b, rfl, hb, _⟩ := keyT_some hz q
    exact ⟨u, .d (.inr ⟨kv, z, b, .inl h1, rfl, hb, hu.symm⟩), ru⟩
  | dN ks xs =>
    obtain ⟨z, hz, h⟩ := Option.bind_eq_some_iff.mp h
    obtain ⟨es, h1, hk, rfl, rr⟩ := hc
    obtain ⟨b, rfl, nk, dk⟩ := keyNT_some hz q
    rw [← kvN_vals] at rr
    rw [← kvN_keys] at h
    obtain ⟨u, hu, ru⟩ := valX_some rr h
    exact ⟨u, .n es z b h1 hk rfl nk dk hu.symm, ru⟩
  | _ => cases h
def rInK (w : World) (neg : Bool) : R2 := fun y x H Q => ∃ a o, x = .ref a ∧ KeyAt w H a y o ∧ Q (.bl (if neg = true then !o.isSome else o.isSome)) H
theorem op_inK (hu : X.A.units + 64 < cLine) : OpR X (compareOp .In) (rInK X.w false) := by
  intro pins s σ H y x v u Q I ry rx h
  obtain ⟨a, o, rfl, ka, q⟩ := h
  cases (show u = Value.ref a from rx)
  cases ka with
  | d h => exact d_in (by omega) I h ry fun s' I' => ⟨.bl _, H, I', rfl, q⟩
  | n es k b e hk hy nk dk ho =>
    subst hy
    cases (show v = Value.ref b from ry)
    subst ho
    exact dn_in hu I e hk nk dk fun s' I' => ⟨.bl _, H, I', rfl, q⟩
theorem op_notInK (hu : X.A.units + 64 < cLine) : OpR X (compareOp .NotIn) (rInK X.w true) := by
  intro pins s σ H y x v u Q I ry rx h
  obtain ⟨a, o, rfl, ka, q⟩ := h
  cases (show u = Value.ref a from rx)
  cases ka with
  | d h => exact d_notIn (by omega) I h ry fun s' I' => ⟨.bl _, H, I', rfl, q⟩
  | n es k b e hk hy nk dk ho =>
    subst hy
    cases (show v = Value.ref b from ry)
    subst ho
    exact dn_notIn hu I e hk nk dk fun s' I' => ⟨.bl _, H, I', rfl, q⟩
theorem o_inM (hw : fr.β.w = X.w) (hu : X.A.units + 64 < cLine) : Op2M X fr (compareOp .In) inM := ⟨fun H F g x y d1 d2 d g' b r1 r2 h => by
  obtain ⟨n, c, t, rfl, hc, hh, rfl, rfl⟩ := hit_cell (m := inM) (f := id) h
  obtain ⟨a, rfl, ha, ca⟩ := b.theCell r2 hc
  obtain ⟨o, ka, rfl⟩ := hasC_at ca r1 hh
  rw [hw] at ka
  exact ⟨_, op_inK hu, a, o, rfl, ka, hit_here b bl_r⟩, fun d1 d2 g c p g' z => by
  unfold inM at z
  split at z
  · split at z <;> cases z
  · cases z⟩
theorem o_notInM (hw : fr.β.w = X.w) (hu : X.A.units + 64 < cLine) : Op2M X fr (compareOp .NotIn) notInM := ⟨fun H F g x y d1 d2 d g' b r1 r2 h => by
  obtain ⟨n, c, t, rfl, hc, hh, rfl, rfl⟩ := hit_cell (m := notInM) (f := fun b => !b) h
  obtain ⟨a, rfl, ha, ca⟩ := b.theCell r2 hc
  obtain ⟨o, ka, rfl⟩ := hasC_at ca r1 hh
  rw [hw] at ka
  exact ⟨_, op_notInK hu, a, o, rfl, ka, hit_here b bl_r⟩, fun d1 d2 g c p g' z => by
  unfold notInM at z
  split at z
  · split at z <;> cases z
  · cases z⟩
/-! ### len -/
def lenC : Cell → Option Nat
  | .lst xs => some xs.length
  | .dK ks _ => some ks.length
  | .dN ks _ => some ks.length
  | _ => none
def lenM (ds : List D) : M D := match ds with
  | [.cell n] => fun g => match g.cs[n]?.bind lenC with
    | some k => .ok (.int k) g
    | none => .bad
  | ds => M.ofO (lenL ds)
def rLenK (w : World) : List V → Hp → VK → Prop := fun xs H Q => ∃ a, xs = [.ref a] ∧ ((∃ kvs : List (Key × V), H a = some (.dK kvs) ∧ Q (.int kvs.length) H) ∨ ∃ es, H a = some (.ext (dictN w a es)) ∧ AllN H es ∧ Q (.int es.length) H)
theorem call_lenK : CallR X (.builtin "len") (rLenK X.w) := by
  intro pins s σ H xs us Q I r h
  obtain ⟨a, rfl, h⟩ := h
  obtain ⟨u, rfl, rx⟩ := vals1 r
  cases (show u = Value.ref a from rx)
  rcases h with ⟨kvs, e, q⟩ | ⟨es, e, hk, q⟩
  · exact d_len I (.inl e) fun t s' I' => ⟨.int kvs.length, H, I', ⟨t, rfl⟩, q⟩
  · exact dn_len I e hk fun t s' I' => ⟨.int es.length, H, I', ⟨t, rfl⟩, q⟩
theorem o_lenM (hw : fr.β.w = X.w) : OpLM X fr (.builtin "len") lenM := ⟨fun H F g xs ds d g' b rs h => by
  unfold lenM at h
  split at h
  · rename_i n
    split at h
    · rename_i k hk
      cases h
      obtain ⟨c, hc, hk⟩ := Option.bind_eq_some_iff.mp hk
      obtain ⟨v, rfl, rv⟩ := rs1 rs
      obtain ⟨a, rfl, ha, ca⟩ := b.theCell rv hc
      cases c with
      | lst ys =>
        cases hk
        obtain ⟨vs, h1, q⟩ := ca
        exact ⟨_, call_len_seq, a, vs, rfl, .inl (SqL.of h1), hit_here b (by rw [← q.length]; exact int_r)⟩
      | dK ks ys =>
        cases hk
        obtain ⟨kv, h1, rfl, q⟩ := ca
        exact ⟨_, call_lenK, a, rfl, .inl ⟨kv, h1, hit_here b (by rw [List.length_map]; exact int_r)⟩⟩
      | dN ks ys =>
        cases hk
        obtain ⟨es, h1, hk2, rfl, q⟩ := ca
        rw [hw] at h1
        exact ⟨_, call_lenK, a, rfl, .inr ⟨es, h1, hk2, hit_here b (by rw [List.length_map]; exact int_r)⟩⟩
      | _ => cases hk
    · cases h
  · cases hl : lenL ds with
    | none => rw [hl] at h; cases h
    | some e =>
      rw [hl] at h
      cases h
      exact o_len.at_ H F g xs ds _ b rs hl, fun ds g c p g' z => by
  unfold lenM at z
  split at z
  · split at z <;> cases z
  · cases hl : lenL ds with
    | none => rw [hl] at z; cases z
    | some e => rw [hl] at z; cases z⟩
end
end VC

/-! VC25: cells: dicts: setdefault, d[k], d[k] = v. -/
namespace VC
open PySem PySem.Spec L2 RZ
open PyProof.Rows hiding St

def isDictC : Cell → Bool
  | .dK _ _ => true
  | .dT _ _ => true
  | .dN _ _ => true
  | _ => false
section
variable {X : Cx} {pins : List (Addr × Obj)} {σ : St} {H : Hp} {F : Reg} {s : Shared} {a : Addr}
theorem dict_at {β : Bx} (hw : β.w = X.w) (I : Inv X pins σ H s) {c : Cell} (hc : CellAt H F β a c) (hd : isDictC c = true) : s.TypeIs (.ref a) "dict" ∧ (∀ b, Value.ref a = .ref b → ∃ ob, s.heap.get? b = some ob ∧ ob.dict = none) := by
  cases c with
  | dK ks xs =>
    obtain ⟨kv, h1, _⟩ := hc
    obtain ⟨t1, t2, _⟩ := isD_at I (.inl ⟨kv, .inl h1⟩)
    exact ⟨t1, t2⟩
  | dT ks xs =>
    obtain ⟨kv, h1, _⟩ := hc
    obtain ⟨t1, t2, _⟩ := isD_at I (.inr ⟨kv, .inl h1⟩)
    exact ⟨t1, t2⟩
  | dN ks xs =>
    obtain ⟨es, h1, hk, _⟩ := hc
    rw [hw] at h1
    obtain ⟨_, _, xs, _, dd⟩ := dn_at I.hok h1 hk
    refine ⟨dd.typeIs, fun b q => ?_⟩
    cases q
    obtain ⟨ob, _, _, e1, e2, _⟩ := dd
    exact ⟨ob, e1, e2.2.1⟩
  | _ => cases hd
end
def setdC (c : Cell) (k x : D) : Option (D × Option Cell) := match c with
  | .dK ks xs => (keyD k).bind fun q => if ks.length < line then some (match valX ks xs q with
    | some v => (v, none)
    | none => (x, some (.dK (ks ++ [q]) (xs ++ [x])))) else none
  | .dN ks xs => (keyNT k).bind fun q => if ks.length < line then some (match valX ks xs q with
    | some v => (v, none)
    | none => (x, some (.dN (ks ++ [q]) (xs ++ [x])))) else none
  | _ => none
def chkD (d : D) : M Nat := fun g => match cellNo d with
  | some n => match g.cs[n]? with
    | some c => if isDictC c = true then .ok n g else .bad
    | none => .bad
  | none => .bad
def setdM (n : Nat) (k x : D) : M D := fun g => match g.cs[n]?.bind fun c => setdC c k x with
  | some (v, none) => .ok v g
  | some (v, some c) => if flat x = true then .ok v ⟨g.b, g.cs.set n c⟩ else .bad
  | none => .bad
def setdE (ρo ρe ρf : EX) : EX := fun env => M.bnd (ρo env) fun d => M.bnd (chkD d) fun n => M.bnd (ρe env) fun k => M.bnd (ρf env) fun x => setdM n k x
theorem flats_snoc {xs : List D} {x : D} (h : flats xs = true) (hx : flat x = true) : flats (xs ++ [x]) = true := by
  induction xs with
  | nil => simp [flats, hx]
  | cons y r ih =>
    simp only [flats, Bool.and_eq_true, List.cons_append] at h ⊢
    exact ⟨h.1, ih h.2⟩
theorem got_step {α : Type} {fr : Fr} {F : Reg} {σ : St} {H : Hp} {Q : VK} {m : M α} {f : α → M D} {g : Bag} (h : Got fr F σ H Q (M.bnd m f g)) (nx : ∀ c p g', m g ≠ .exn c p g') : ∃ a g', m g = .ok a g' ∧ Got fr F σ H Q (f a g') := by
  rcases got_bnd h with ⟨a, g', e, h⟩ | ⟨c, p, g', e, _⟩
  · exact ⟨a, g', e, h⟩
  · exact absurd e (nx c p g')
theorem chkD_nx {d : D} {g g' : Bag} {c : Nat} {p : D} : chkD d g ≠ .exn c p g' := by
  unfold chkD
  split
  · split
    · split <;> exact fun z => by cases z
    · exact fun z => by cases z
  · exact fun z => by cases z
theorem chkD_ok {d : D} {g g' : Bag} {n : Nat} (h : chkD d g = .ok n g') : d = .cell n ∧ g' = g ∧ ∃ c, g.cs[n]? = some c ∧ isDictC c = true := by
  unfold chkD at h
  split at h
  · rename_i m hm
    split at h
    · rename_i c hc
      split at h
      · rename_i hd
        cases h
        exact ⟨cellNo_some hm, rfl, c, hc, hd⟩
      · cases h
    · cases h
  · cases h
theorem setdM_nx {n : Nat} {k x : D} {g g' : Bag} {c : Nat} {p : D} : setdM n k x g ≠ .exn c p g' := by
  unfold setdM
  split
  · exact fun z => by cases z
  · split <;> exact fun z => by cases z
  · exact fun z => by cases z
section
variable {X : Cx} {fr : Fr} {o e f : Expr} {ρo ρe ρf : EX} {apos cpos : Pos}
/-- the store behind a setdefault -/
theorem setd_go {pins : List (Addr × Obj)} {σ : St} {H : Hp} {s : Shared} {Q : VK} {F : Reg} {env : Slots} {g : Bag} (hw : fr.β.w = X.w) (hu : X.A.units + 64 < cLine) (I : Inv X pins σ H s) (r : ER fr F env σ H g) {n : Nat} {a : Addr} (ha : F.cs[n]? = some a)
    {k x : D} {y z : V} {u w : Value} (qk : R H F fr.β k y) (ry : RelV y u) (qx : R H F fr.β x z) (rz : RelV z w) (hg : Got fr F σ H Q (setdM n k x g)) : wpAny (model X.prog X.w) X.A (call (.builtin "dict.setdefault") [.ref a, u, w]) (EP X pins σ Q) X.xe s := by
  obtain ⟨d, g', e, hg⟩ := got_ok hg (fun _ _ _ => setdM_nx)
  unfold setdM at e
  cases hc : g.cs[n]? with
  | none => rw [hc] at e; cases e
  | some c =>
    have ca := r.bag.cell n a c ha hc
    have hfl := r.bag.fl c (List.mem_of_getElem? hc)
    rw [hc] at e
    simp only [Option.bind_some] at e
    cases c with
    | dK ks xs =>
      obtain ⟨kv, h1, rfl, q⟩ := ca
      unfold setdC at e
      cases hk : keyD k with
      | none => rw [hk] at e; cases e
      | some q0 =>
        rw [hk] at e
        simp only [Option.bind_some] at e
        split at e
        · rename_i v hv
          split at hv
          · rename_i hl
            cases hv2 : valX (kv.map (·.1)) xs q0 with
            | some v2 =>
              rw [hv2] at hv
              cases hv
              cases e
              obtain ⟨v0, hv0, rv0⟩ := valX_some q hv2
              obtain ⟨rfl, _⟩ := keyD_some hk qk
              refine d_setd I h1 ry rz (by rw [line_eq]; simpa using hl) (fun v1 hv1 w' s' I' rw' => ?_) fun hn => by rw [hv0] at hn; cases hn
              rw [hv0] at hv1
              cases hv1
              exact ⟨v0, H, I', rw', got_hit hg (hit_here r.bag rv0)⟩
            | none => rw [hv2] at hv; cases hv
          · cases hv
        · rename_i v c' hv
          split at hv
          · rename_i hl
            cases hv2 : valX (kv.map (·.1)) xs q0 with
            | some v2 => rw [hv2] at hv; cases hv
            | none =>
              rw [hv2] at hv
              cases hv
              split at e
              · rename_i hf
                cases e
                obtain ⟨rfl, _⟩ := keyD_some hk qk
                have hn0 : valV kv q0 = none := by
                  have := valX_isSome (k := q0) q
                  rw [hv2] at this
                  simpa using this
                refine d_setd I h1 ry rz (by rw [line_eq]; simpa using hl) (fun v1 hv1 => by rw [hn0] at hv1; cases hv1) fun _ w' s' I' rw' => ?_
                have hput : putK kv q0 z = kv ++ [(q0, z)] := by
                  unfold putK
                  rw [if_neg (by rw [valV_any, hn0]; simp)]
                rw [hput] at I'
                have hT : ∀ b ys, H b = some (.tup ys) → upd H a (.dK (kv ++ [(q0, z)])) b = some (.tup ys) := fun b ys h => by rw [upd_ne (fun e => by rw [e, h1] at h; cases h)]; exact h
                have ca' : CellAt (upd H a (.dK (kv ++ [(q0, z)]))) F fr.β a (.dK (kv.map (·.1) ++ [q0]) (xs ++ [x])) := ⟨_, upd_same, by simp, by
                  rw [List.map_append]
                  exact (Rs.flatT hT (fun _ _ h => h) _ _ hfl q).append (.one (R.flatT hT (fun _ _ h => h) _ _ hf qx))⟩
                obtain ⟨b2, e2⟩ := r.bag.setC (c := .dK (kv.map (·.1) ++ [q0]) (xs ++ [x])) ha ca' (flats_snoc hfl hf)
                exact ⟨z, _, I', rw', hg _ _ F e2 b2 (R.flatT hT (fun _ _ h => h) _ _ hf qx)⟩
              · cases e
          · cases hv
        · cases e
    | dN ks xs =>
      obtain ⟨es, h1, hkn, rfl, q⟩ := ca
      rw [hw] at h1
      unfold setdC at e
      cases hk : keyNT k with
      | none => rw [hk] at e; cases e
      | some q0 =>
        rw [hk] at e
        simp only [Option.bind_some] at e
        obtain ⟨b, rfl, nk, dk⟩ := keyNT_some hk qk
        cases (show u = Value.ref b from ry)
        have q' : Rs H F fr.β xs ((kvN es).map (·.2)) := by rw [kvN_vals]; exact q
        rw [← kvN_keys] at e
        split at e
        · rename_i v hv
          split at hv
          · rename_i hl
            cases hv2 : valX ((kvN es).map (·.1)) xs q0 with
            | some v2 =>
              rw [hv2] at hv
              cases hv
              cases e
              obtain ⟨v0, hv0, rv0⟩ := valX_some q' hv2
              refine dn_setd hu I h1 hkn nk dk rz (by rw [line_eq]; simpa [kvN] using hl) (fun v1 hv1 w' s' I' rw' => ?_) fun hn => by rw [hv0] at hn; cases hn
              rw [hv0] at hv1
              cases hv1
              exact ⟨v0, H, I', rw', got_hit hg (hit_here r.bag rv0)⟩
            | none => rw [hv2] at hv; cases hv
          · cases hv
        · rename_i v c' hv
          split at hv
          · rename_i hl
            cases hv2 : valX ((kvN es).map (·.1)) xs q0 with
            | some v2 => rw [hv2] at hv; cases hv
            | none =>
              rw [hv2] at hv
              cases hv
              split at e
              · rename_i hf
                cases e
                have hn0 : valV (kvN es) q0 = none := by
                  have := valX_isSome (k := q0) q'
                  rw [hv2] at this
                  simpa using this
                refine dn_setd hu I h1 hkn nk dk rz (by rw [line_eq]; simpa [kvN] using hl) (fun v1 hv1 => by rw [hn0] at hv1; cases hv1) fun _ s' I' => ?_
                have hT : ∀ b2 ys, H b2 = some (.tup ys) → upd H a (.ext (dictN X.w a (es ++ [(q0, b, z)]))) b2 = some (.tup ys) := fun b2 ys h => by rw [upd_ne (fun e => by rw [e, h1] at h; cases h)]; exact h
                have ca' : CellAt (upd H a (.ext (dictN X.w a (es ++ [(q0, b, z)])))) F fr.β a (.dN ((kvN es).map (·.1) ++ [q0]) (xs ++ [x])) := ⟨_, by rw [hw, upd_same], fun en hen => by
                  rcases List.mem_append.mp hen with hen | hen
                  · exact ⟨(hkn en hen).1.mono hT, (hkn en hen).2⟩
                  · rw [List.mem_singleton.mp hen]
                    exact ⟨nk.mono hT, dk⟩, by rw [kvN_keys]; simp, by
                  rw [List.map_append]
                  exact (Rs.flatT hT (fun _ _ h => h) _ _ hfl q).append (.one (R.flatT hT (fun _ _ h => h) _ _ hf qx))⟩
                obtain ⟨b2, e2⟩ := r.bag.setC (c := .dN ((kvN es).map (·.1) ++ [q0]) (xs ++ [x])) ha ca' (flats_snoc hfl hf)
                exact ⟨z, _, I', rz, hg _ _ F e2 b2 (R.flatT hT (fun _ _ h => h) _ _ hf qx)⟩
              · cases e
          · cases hv
        · cases e
    | _ => cases e
theorem ev_setd (hw : fr.β.w = X.w) (hu : X.A.units + 64 < cLine) (ho : EV X fr o ρo) (he : EV X fr e ρe) (hf : EV X fr f ρf) (m : M2 X o "setdefault" apos e f cpos) : EV X fr (.Call (.Attribute o "setdefault" apos) [e, f] [] cpos) (setdE ρo ρe ρf) := by
  refine ⟨fun pins s σ H Q I ⟨env, F, g, r, hg⟩ => ?_⟩
  refine wpAny_Call_method m.base m.few m.line PySem.F.plainAttrs_dict PySem.F.slot_dict_setdefault PySem.F.type_dict_setdefault (ho.goM I r hg fun d g1 u1 s1 v1 H1 F1 I1 rv1 ex1 er1 q1 hg1 => ?_)
  obtain ⟨n, g1', e1, hgn⟩ := got_step hg1 (fun _ _ _ => chkD_nx)
  obtain ⟨rfl, rfl, c, hc, hd⟩ := chkD_ok e1
  obtain ⟨a, rfl, ha, ca⟩ := er1.bag.theCell q1 hc
  obtain rfl : u1 = Value.ref a := rv1
  obtain ⟨t1, t2⟩ := dict_at hw I1 ca hd
  refine ⟨t1, t2, ?_⟩
  rw [m.trees]
  refine Calls.callWith_builtin rfl (Calls.evalArgs_plain (Calls.spliced_cons (he.goM I1 er1 hgn fun k g2 u2 s2 v2 H2 F2 I2 rv2 ex2 er2 q2 hg2 => Calls.spliced_cons (hf.goM I2 er2 hg2 fun x g3 u3 s3 v3 H3 F3 I3 rv3 ex3 er3 q3 hg3 => Calls.spliced_nil ?_))))
  exact setd_go hw hu I3 er3 (ex3.mono.at (ex2.mono.at ha)) (q2.ext er2.bag ex3) rv2 q3 rv3 hg3
/-! ### d[k] -/
def getM (d k : D) : M D := fun g => match cellNo d with
  | some n => match g.cs[n]?.bind fun c => getCk c k with
    | some x => .ok x g
    | none => .bad
  | none => .bad
theorem getM_nx {d k : D} {g g' : Bag} {c : Nat} {p : D} : getM d k g ≠ .exn c p g' := by
  unfold getM
  split
  · split <;> exact fun z => by cases z
  · exact fun z => by cases z
theorem getM_ok {d k x : D} {g g' : Bag} (h : getM d k g = .ok x g') : g' = g ∧ ∃ n c, d = .cell n ∧ g.cs[n]? = some c ∧ getCk c k = some x := by
  unfold getM at h
  split at h
  · rename_i n hn
    split at h
    · rename_i y hy
      cases h
      obtain ⟨c, hc, hx⟩ := Option.bind_eq_some_iff.mp hy
      exact ⟨rfl, n, c, cellNo_some hn, hc, hx⟩
    · cases h
  · cases h
theorem getCk_dict {c : Cell} {k x : D} (h : getCk c k = some x) : isDictC c = true := by
  cases c <;> first | rfl | cases h
theorem ev_getM {i : Expr} {ρi : EX} {pos : Pos} (hw : fr.β.w = X.w) (hu : X.A.units + 64 < cLine) (ho : EV X fr o ρo) (hi : EV X fr i ρi) (hs : NoSl i := by intro _ _; rfl) : EV X fr (.Subscript o i pos) (bin2M getM ρo ρi) := by
  refine ⟨fun pins s σ H Q I ⟨env, F, g, r, hg⟩ => ?_⟩
  refine subD_of PySem.F.slot_dict_getitem.lookup hs (ho.goM I r hg fun d g1 u s1 x H1 F1 I1 rx ex1 er1 q1 hg1 => hi.goM I1 er1 hg1 fun k g2 iv s2 y H2 F2 I2 ry ex2 er2 q2 hg2 => ?_)
  obtain ⟨z, g3, e, hg3⟩ := got_ok hg2 (fun _ _ _ => getM_nx)
  obtain ⟨rfl, n, c, rfl, hc, hz⟩ := getM_ok e
  obtain ⟨a, rfl, ha, ca⟩ := er2.bag.theCell (q1.ext er1.bag ex2) hc
  obtain rfl : u = Value.ref a := rx
  obtain ⟨v, ka, rv⟩ := getCk_at ca q2 hz
  rw [hw] at ka
  refine ⟨(dict_at hw I2 ca (getCk_dict hz)).1, ?_⟩
  cases ka with
  | d h => exact d_getItem (by omega) I2 h ry fun w' s3 I3 rw' => ⟨v, H2, I3, rw', got_hit hg3 (hit_here er2.bag rv)⟩
  | n es k b e hk hy nk dk ho =>
    subst hy
    cases (show iv = Value.ref b from ry)
    exact dn_getItem hu I2 e hk nk dk ho.symm fun w' s3 I3 rw' => ⟨v, H2, I3, rw', got_hit hg3 (hit_here er2.bag rv)⟩
end
/-! ### d[k] = v -/
def putCk (c : Cell) (k x : D) : Option Cell := match c with
  | .lst xs => (ixO xs.length k).map fun j => .lst (xs.set j x)
  | .dK ks xs => (keyD k).bind fun k => if ks.length < line then some (.dK (putX ks xs k x).1 (putX ks xs k x).2) else none
  | .dT ks xs => (keyT k).bind fun k => if ks.length < line then some (.dT (putX ks xs k x).1 (putX ks xs k x).2) else none
  | .dN ks xs => (keyNT k).bind fun k => if ks.length < line then some (.dN (putX ks xs k x).1 (putX ks xs k x).2) else none
  | _ => none
def putM (d k x : D) : M Unit := fun g => match cellNo d with
  | some n => match g.cs[n]?.bind fun c => putCk c k x with
    | some c => if flat x = true then .ok () ⟨g.b, g.cs.set n c⟩ else .bad
    | none => .bad
  | none => .bad
theorem putM_ok {d k x : D} {g g' : Bag} {u : Unit} (h : putM d k x g = .ok u g') : ∃ n c c', d = .cell n ∧ g.cs[n]? = some c ∧ putCk c k x = some c' ∧ flat x = true ∧ g' = ⟨g.b, g.cs.set n c'⟩ := by
  unfold putM at h
  split at h
  · rename_i n hn
    split at h
    · rename_i c' hy
      obtain ⟨c, hc, hx⟩ := Option.bind_eq_some_iff.mp hy
      split at h
      · rename_i hf
        cases h
        exact ⟨n, c, c', cellNo_some hn, hc, hx, hf, rfl⟩
      · cases h
    · cases h
  · cases h
theorem flats_putXs {κ : Type} [DecidableEq κ] {k : κ} {x : D} : ∀ {ks : List κ} {xs : List D}, flats xs = true → flat x = true → flats (putXs ks xs k x) = true
  | [], xs, h, _ => by cases xs <;> exact h
  | _ :: _, [], h, _ => h
  | k' :: ks, y :: xs, h, hx => by
    simp only [flats, Bool.and_eq_true] at h
    unfold putXs
    simp only [flats, Bool.and_eq_true]
    refine ⟨?_, flats_putXs h.2 hx⟩
    split
    · exact hx
    · exact h.1
theorem flats_putX {κ : Type} [DecidableEq κ] {k : κ} {x : D} {ks : List κ} {xs : List D} (h : flats xs = true) (hx : flat x = true) : flats (putX ks xs k x).2 = true := by
  unfold putX
  split
  · exact flats_putXs h hx
  · exact flats_snoc h hx
theorem flats_set : ∀ {xs : List D} {j : Nat} {x : D}, flats xs = true → flat x = true → flats (xs.set j x) = true
  | [], _, _, h, _ => h
  | y :: r, 0, x, h, hx => by
    simp only [flats, Bool.and_eq_true, List.set_cons_zero] at h ⊢
    exact ⟨hx, h.2⟩
  | y :: r, j + 1, x, h, hx => by
    simp only [flats, Bool.and_eq_true, List.set_cons_succ] at h ⊢
    exact ⟨h.1, flats_set h.2 hx⟩
theorem putCk_flat {c c' : Cell} {k x : D} (h : putCk c k x = some c') (hf : flats c.items = true) (hx : flat x = true) : flats c'.items = true := by
  cases c with
  | lst xs => obtain ⟨j, _, rfl⟩ := Option.map_eq_some_iff.mp h; exact flats_set hf hx
  | dK ks xs =>
    obtain ⟨q, _, h⟩ := Option.bind_eq_some_iff.mp h
    split at h
    · cases h; exact flats_putX hf hx
    · cases h
  | dT ks xs =>
    obtain ⟨q, _, h⟩ := Option.bind_eq_some_iff.mp h
    split at h
    · cases h; exact flats_putX hf hx
    · cases h
  | dN ks xs =>
    obtain ⟨q, _, h⟩ := Option.bind_eq_some_iff.mp h
    split at h
    · cases h; exact flats_putX hf hx
    · cases h
  | _ => cases h
theorem putEN_rel {H : Hp} {F : Reg} {β : Bx} {es : List EN} {xs : List D} {k : NestedKey} {b : Addr} {x : D} {v : V} (h : Rs H F β xs (es.map (·.2.2))) (q : R H F β x v) : (putX (es.map (·.1)) xs k x).1 = (putEN es k b v).map (·.1) ∧ Rs H F β (putX (es.map (·.1)) xs k x).2 ((putEN es k b v).map (·.2.2)) := by
  rw [← kvN_vals] at h
  rw [← kvN_keys]
  obtain ⟨h1, h2⟩ := putX_rel (k := k) h q
  have key : kvN (putEN es k b v) = putK (kvN es) k v := by
    unfold putEN putK
    rw [valV_any]
    split
    · unfold kvN
      rw [List.map_map, List.map_map]
      refine List.map_congr_left fun e _ => ?_
      show (fun e : EN => (e.1, e.2.2)) (if e.1 = k then (e.1, e.2.1, v) else e) = if e.1 = k then (e.1, v) else (e.1, e.2.2)
      split <;> rfl
    · unfold kvN
      rw [List.map_append]
      rfl
  rw [← kvN_keys, ← kvN_vals, key]
  exact ⟨h1, h2⟩
section
variable {X : Cx} {fr : Fr}
/-- what stands behind a store -/
theorem put_go {pins : List (Addr × Obj)} {σ : St} {H : Hp} {s : Shared} {F : Reg} {g : Bag} {Q : Unit → Shared → Prop} (hw : fr.β.w = X.w) (hu : X.A.units + 64 < cLine) (I : Inv X pins σ H s) (bg : BagOk fr.β F H g) {n : Nat} {a : Addr} (ha : F.cs[n]? = some a) {c c' : Cell} (hc : g.cs[n]? = some c)
    {k x : D} {y z : V} {u w : Value} (qk : R H F fr.β k y) (ry : RelV y u) (qx : R H F fr.β x z) (rz : RelV z w) (hp : putCk c k x = some c') (hf : flat x = true) (hd : isDictC c = true)
    (h : ∀ H' s', Inv X pins σ H' s' → BagOk fr.β F H' ⟨g.b, g.cs.set n c'⟩ → Ext fr.β F H F H' → Q () s') : wpAny (model X.prog X.w) X.A (setItem (.ref a) u w) Q X.xe s := by
  have ca := bg.cell n a c ha hc
  have hfl := bg.fl c (List.mem_of_getElem? hc)
  have hf' := putCk_flat hp hfl hf
  cases c with
  | dK ks xs =>
    obtain ⟨q0, hk, hp⟩ := Option.bind_eq_some_iff.mp hp
    obtain ⟨kv, h1, rfl, q⟩ := ca
    split at hp
    · rename_i hl
      cases hp
      obtain ⟨rfl, _⟩ := keyD_some hk qk
      refine d_setItem (H' := upd H a (.dK (putK kv q0 z))) (by omega) I (DPut.k h1 (by rw [line_eq]; simpa using hl)) ry rz fun s' I' => ?_
      have hT : ∀ b ys, H b = some (.tup ys) → upd H a (.dK (putK kv q0 z)) b = some (.tup ys) := fun b ys h => by rw [upd_ne (fun e => by rw [e, h1] at h; cases h)]; exact h
      obtain ⟨p1, p2⟩ := putX_rel (k := q0) (Rs.flatT hT (fun _ _ h => h) _ _ hfl q) (R.flatT hT (fun _ _ h => h) _ _ hf qx)
      obtain ⟨b2, e2⟩ := bg.setC (c := .dK (putX (kv.map (·.1)) xs q0 x).1 (putX (kv.map (·.1)) xs q0 x).2) ha ⟨_, upd_same, p1, p2⟩ hf'
      exact h _ s' I' b2 e2
    · cases hp
  | dT ks xs =>
    obtain ⟨q0, hk, hp⟩ := Option.bind_eq_some_iff.mp hp
    obtain ⟨kv, h1, rfl, q⟩ := ca
    split at hp
    · rename_i hl
      cases hp
      obtain ⟨b, rfl, hb, _⟩ := keyT_some hk qk
      refine d_setItem (H' := upd H a (.dT (putK kv q0 z))) (by omega) I (DPut.t h1 hb (by rw [line_eq]; simpa using hl)) ry rz fun s' I' => ?_
      have hT : ∀ b ys, H b = some (.tup ys) → upd H a (.dT (putK kv q0 z)) b = some (.tup ys) := fun b ys h => by rw [upd_ne (fun e => by rw [e, h1] at h; cases h)]; exact h
      obtain ⟨p1, p2⟩ := putX_rel (k := q0) (Rs.flatT hT (fun _ _ h => h) _ _ hfl q) (R.flatT hT (fun _ _ h => h) _ _ hf qx)
      obtain ⟨b2, e2⟩ := bg.setC (c := .dT (putX (kv.map (·.1)) xs q0 x).1 (putX (kv.map (·.1)) xs q0 x).2) ha ⟨_, upd_same, p1, p2⟩ hf'
      exact h _ s' I' b2 e2
    · cases hp
  | dN ks xs =>
    obtain ⟨q0, hk, hp⟩ := Option.bind_eq_some_iff.mp hp
    obtain ⟨es, h1, hkn, rfl, q⟩ := ca
    rw [hw] at h1
    split at hp
    · rename_i hl
      cases hp
      obtain ⟨b, rfl, nk, dk⟩ := keyNT_some hk qk
      cases (show u = Value.ref b from ry)
      refine dn_setItem hu I h1 hkn nk dk rz (by rw [line_eq]; simpa using hl) fun s' I' => ?_
      have hT : ∀ b2 ys, H b2 = some (.tup ys) → upd H a (.ext (dictN X.w a (putEN es q0 b z))) b2 = some (.tup ys) := fun b2 ys h => by rw [upd_ne (fun e => by rw [e, h1] at h; cases h)]; exact h
      obtain ⟨p1, p2⟩ := putEN_rel (k := q0) (b := b) (Rs.flatT hT (fun _ _ h => h) _ _ hfl q) (R.flatT hT (fun _ _ h => h) _ _ hf qx)
      have hall : ∀ en ∈ putEN es q0 b z, NK (upd H a (.ext (dictN X.w a (putEN es q0 b z)))) en.1 (.ref en.2.1) ∧ en.1.depth ≤ 8 := fun en hen => by
        have : (∃ e0 ∈ es, e0.1 = en.1 ∧ e0.2.1 = en.2.1) ∨ en = (q0, b, z) := by
          unfold putEN at hen
          split at hen
          · obtain ⟨e0, he0, rfl⟩ := List.mem_map.mp hen
            refine .inl ⟨e0, he0, ?_⟩
            split <;> exact ⟨rfl, rfl⟩
          · rcases List.mem_append.mp hen with hen | hen
            · exact .inl ⟨en, hen, rfl, rfl⟩
            · exact .inr (List.mem_singleton.mp hen)
        rcases this with ⟨e0, he0, e1, e2⟩ | rfl
        · rw [← e1, ← e2]
          exact ⟨(hkn e0 he0).1.mono hT, (hkn e0 he0).2⟩
        · exact ⟨nk.mono hT, dk⟩
      obtain ⟨b2, e2⟩ := bg.setC (c := .dN (putX (es.map (·.1)) xs q0 x).1 (putX (es.map (·.1)) xs q0 x).2) ha ⟨_, by rw [hw, upd_same], hall, p1, p2⟩ hf'
      exact h _ s' I' b2 e2
    · cases hp
  | _ => cases hd
end
end VC

/-! VC26: for over a tuple read off an owned slot; written tuples; {k: v} of ints; list.index; tuple * 1; stores to cells. -/
namespace VC
open PySem PySem.Spec L2 RZ
open PyProof.Rows hiding St

/-! ### for over a tuple, whatever the slots hold -/
def tupO : D → Option (List D)
  | .tup xs => if flats xs = true then some xs else none
  | _ => none
theorem tupO_some {d : D} {xs : List D} (h : tupO d = some xs) : d = .tup xs ∧ flats xs = true := by
  unfold tupO at h
  split at h
  · split at h
    · rename_i hf; cases h; exact ⟨rfl, hf⟩
    · cases h
  · cases h
def forT (O : List Nat) (ρi : EX) (bd : BX) (ρ : SX) : SX := fun env => M.bnd (ρi env) fun d => M.bnd (M.ofO (tupO d)) fun ds => forGo O bd ρ ds env
section
variable {X : Cx} {fs : Fs} {L O O1 O2 O' : List Nat} {pos : Pos}
theorem sv_forT {tg iter : Expr} {body : List Stmt} {ρi : EX} {bd : BX} {ρb : SX} (hp : PassesOwn (model X.prog X.w) X.A X.env X.xe) (hc : X.calm = true) (hi : EV X fs.fr iter ρi) (hb : BV X fs.fr tg bd) (hs : SVs X fs O O body ρb O)
    (hf : ∀ x, foldedSetIterable iter X.env x = pure x := by intro _; rfl) : SV X fs L O (.For tg iter body [] pos) (forT O ρi bd ρb) O := by
  refine ⟨fun pins s σ H D I ⟨F, env, g, r, hg⟩ => (ps_for hp hc (pi_tup hi) hb hs hf).run pins s σ H D I ⟨env, _, g, r.er, gotS_exp r hg fun d g' H' F2 v r' kp ex b q hq => ?_⟩⟩
  obtain ⟨ds, hd, hq2⟩ := gotS_ofO hq
  obtain ⟨e2, hfl⟩ := tupO_some hd
  rw [e2] at q
  obtain ⟨a, vs, rfl, h1, q1⟩ := r_tup q
  refine ⟨a, rfl, ⟨vs, SqT.of h1⟩, ?_⟩
  have q2 : Rs H' (F.mix F2) fs.fr.β ds vs := Rs.flat_ (F := F2) (F' := F.mix F2) (fun _ _ h => h) _ _ hfl q1
  exact for_core r' (wk_vals (F := F.mix F2) q2 walk_tup fun H2 k => SqT.of (k.tup a vs h1)) Reg.le.rfl (.inl hfl) hq2
end
/-! ### a written tuple of ints, read -/
def gtupE (ns : List Int) (ρ : EX) : EX := fun env => M.bnd (ρ env) fun d => M.bnd (M.ofO (asI d)) fun i => M.ofO ((atI ns i).map D.int)
section
variable {X : Cx} {fr : Fr} {pos : Pos} {o e i : Expr} {ρ ρi ρo ρe : EX}
theorem ev_gtup {x : Str} {p : Addr} {ns : List Int} {pos2 : Pos} (hg : Gl X x) (hm : X.mg x = some (.ref p)) (hw : ∀ H, SqT X.K H p (ns.map V.int)) (hi : EV X fr i ρi) (hs : PlainIx i) (hd : (x == ("__debug__" : Str)) = false := by decide) : EV X fr (.Subscript (.Name x pos2) i pos) (gtupE ns ρi) := by
  refine ev_of _ _ _ (pe_ix ix_tup (pe_glob (v := .ref p) hg hm rfl hd) hi hs) fun σ H Q env F g r hg => ?_
  refine got_seq r hg fun d g1 H1 F1 v ho ex er q hq => ?_
  obtain ⟨i, g2, e1, hq⟩ := got_step hq (fun c p g' z => by cases h : asI d <;> rw [h] at z <;> cases z)
  cases hd : asI d with
  | none => rw [hd] at e1; cases e1
  | some j =>
    rw [hd] at e1
    cases e1
    cases hz : atI ns i with
    | none => rw [hz] at hq; exact (show False from hq).elim
    | some z =>
      rw [hz] at hq
      rw [asI_some hd] at q
      refine ⟨p, ns.map V.int, i, .int z, rfl, r_int q, hw H1, ?_, got_hit hq (hit_here er.bag int_r)⟩
      unfold L2.atI at hz ⊢
      rw [List.length_map]
      obtain ⟨k, hk, hz⟩ := Option.bind_eq_some_iff.mp hz
      rw [hk]
      simp [hz]
/-! ### {k: v} -/
def disp1K (κ ρ : EX) : EX := fun env => M.bnd (κ env) fun k => M.bnd (ρ env) fun x => M.bnd (M.ofO (keyD k)) fun k => M.ret (.dK [k] [x])
theorem evn_disp1K {ek ev : Expr} {κ ρ : EX} (hk : EV X fr ek κ) (hv : EV X fr ev ρ) : EVN X fr (.Dict [some ek] [ev] pos) (disp1K κ ρ) := by
  refine ⟨fun pins s σ H Q I ⟨env, F, g, r, hg⟩ => (pe_disp (pps_cons hk hv pps_nil) rfl rfl (by simp) (by simp)).run pins s σ H Q I fun p hp => ?_⟩
  have e0 : Ext fr.β F H F (upd H p (.dK [])) := Ext.put hp
  have r0 := r.ext e0 (r.bag.put hp)
  refine ⟨env, F, g, r0, ?_⟩
  rcases gotN_bnd hg with ⟨k, g1, ho, hg⟩ | ⟨c, pp, g', ho, hg⟩
  case inr => rw [ho]; exact fun H' F' cls dd ex b q => hg H' F' cls dd (e0.trans ex) b q
  rw [ho]
  intro y H1 F1 ex1 b1 q1
  have r1 := r0.ext ex1 b1
  refine ⟨env, F1, g1, r1, ?_⟩
  rcases gotN_bnd hg with ⟨x, g2, ho2, hg⟩ | ⟨c, pp, g', ho2, hg⟩
  case inr => rw [ho2]; exact fun H' F' cls dd ex b q => hg H' F' cls dd (e0.trans (ex1.trans ex)) b q
  rw [ho2]
  intro v H2 F2 ex2 b2 q2
  rcases gotN_bnd hg with ⟨kk, g3, ho3, hg⟩ | ⟨c, pp, g', ho3, hg⟩
  case inr => cases hkk : keyD k <;> rw [hkk] at ho3 <;> cases ho3
  cases hkk : keyD k with
  | none => rw [hkk] at ho3; cases ho3
  | some kt =>
    rw [hkk] at ho3
    cases ho3
    obtain ⟨rfl, _⟩ := keyD_some hkk q1
    have exx : Ext fr.β F (upd H p (.dK [])) F2 H2 := ex1.trans ex2
    have hpβ : some p ≠ fr.β.ad := r.bag.neN hp
    have hp2 : H2 p = some (.dK []) := exx.keep p _ upd_same hpβ fun z => r.bag.live p (.inr z) hp
    have nF : ¬ F2 p := fun f => (exx.new p f).elim (fun f => r.bag.live p f hp) fun z => by rw [upd_same] at z; cases z
    have bg : BagOk fr.β F2 (upd H2 p (.dK [(kk, v)])) g2 := b2.over hp2 (fun xs z => by cases z) (fun xs z => by cases z) fun z => nF (.inr z)
    have kp : Kp F2 H2 (upd H2 p (.dK [(kk, v)])) := Kp.upd nF hp2 fun xs z => by cases z
    have ef : Ext fr.β F H F2 (upd H2 p (.dK [(kk, v)])) := (e0.trans exx).over hp
    exact ⟨hp2, [(kk, v)], rfl, by simp, hg (.ref p) _ F2 ef bg ⟨p, [(kk, v)], rfl, hp, nF, hpβ, upd_same, rfl, (Rs.one q2).kp kp Reg.le.rfl⟩⟩
/-! ### list.index -/
def lstO : D → Option (List D)
  | .lst xs => some xs
  | _ => none
theorem lstO_some {d : D} {xs : List D} (h : lstO d = some xs) : d = .lst xs := by
  cases d <;> first | (cases h; rfl) | cases h
def idxO (xs : List D) (e : D) : Option D := if (PyData.plainAll (toPys xs) = true ∧ (toPy e).plain = true) ∧ SeqAt.shaped (.list (toPys xs)) = true ∧ SeqAt.shaped (toPy e) = true then ((toPys xs).findIdx? fun y => PyData.eqv y (toPy e)).map fun (j : Nat) => .int j else none
def idxE (ρo ρe : EX) : EX := fun env => M.bnd (ρo env) fun d => M.bnd (M.ofO (lstO d)) fun xs => M.bnd (ρe env) fun e => M.ofO (idxO xs e)
theorem ofO_step {α : Type} {fr : Fr} {F : Reg} {σ : St} {H : Hp} {Q : VK} {o : Option α} {f : α → M D} {g : Bag} (h : Got fr F σ H Q (M.bnd (M.ofO o) f g)) : ∃ a, o = some a ∧ Got fr F σ H Q (f a g) := by
  cases o with
  | none => exact (show False from h).elim
  | some a => exact ⟨a, rfl, h⟩
theorem ev_idx {apos cpos : Pos} (hu : X.A.units + 65 < cLine) (ho : EV X fr o ρo) (he : EV X fr e ρe) (hb : attributeBase o "index" X.env (eval o X.env) = eval o X.env := by rfl)
    (hfew : ((backTo cpos (starEach [e] X.env)).all (fun x => !x.1) && (backToKw cpos (keywordEach [] X.env)).all (fun x => x.1.isSome)
      && decide (([e] : List Expr).length + ([] : List Keyword).length + (if ([] : List Keyword).isEmpty then 0 else 1) < 30)) = true := by rfl)
    (hline : (apos.endLine == cpos.line) = true := by rfl) (hs : starEach [e] X.env = (false, eval e X.env) :: starEach [] X.env := by rfl) (hplain : (backTo cpos (starEach [] X.env)).any (·.1) = false := by rfl) :
    EV X fr (.Call (.Attribute o "index" apos) [e] [] cpos) (idxE ρo ρe) := by
  refine ev_of _ _ _ (pe_bm PySem.F.plainAttrs_list PySem.F.slot_list_index PySem.F.type_list_index (mt_indexD hu) ho (pa_cons he pa_nil hs) hb hfew hline hs hplain) fun σ H Q env F g r hg => ?_
  refine got_seq r hg fun d g1 H1 F1 v hoo ex er q hq => ?_
  obtain ⟨xs, hx, hq⟩ := ofO_step hq
  cases lstO_some hx
  obtain ⟨a, vs, rfl, f1, h1, q1⟩ := r_lst q
  refine ⟨.inl ⟨rfl, vs, SqL.of h1⟩, ?_⟩
  refine got_seq er hq fun x g2 H2 F2 w hoo2 ex2 er2 q2 hq2 => ?_
  obtain ⟨z, hz, hq3⟩ := ofO_got hq2
  unfold idxO at hz
  split at hz
  · rename_i hc
    obtain ⟨j, hj, rfl⟩ := Option.map_eq_some_iff.mp hz
    obtain ⟨hlt, hp, hno⟩ := List.findIdx?_eq_some_iff_getElem.mp hj
    have q' : R H2 F2 fr.β (.lst xs) (.ref a) := q.ext er.bag ex2
    have dl := R.dp (K := X.K) (.lst xs) (.ref a) (by show PyData.plainAll (toPys xs) = true; exact hc.1.1) q'
    have de := R.dp (K := X.K) x w hc.1.2 q2
    refine ⟨a, w, toPy x, toPys xs, j, (toPys xs)[j], rfl, rfl, dl, de, hc.2.1, hc.2.2, List.getElem?_eq_getElem hlt, hp, fun m z' hm hz' => ?_, got_hit hq3 (hit_here er2.bag int_r)⟩
    obtain ⟨hml, rfl⟩ := List.getElem?_eq_some_iff.mp hz'
    have := hno m hm
    simpa using this
  · cases hz
end
end VC

/-! VC27: tuple * 1; an own error without arguments; what is caught. -/
namespace VC
open PySem PySem.Spec L2 RZ
open PyProof.Rows hiding St

theorem tuple_mulOne (l : Addr) (items : Array Value) (n : Nat) (dd : Option Addr) (sl : Array (Option Value)) (u : Tok) :
    Meets (Builtin.«tuple.__mul__» ⟨[.ref l, .int 1 u], []⟩) (fun _ R s => s.heap.get? l = some { cls := .type "tuple", dict := dd, data := .seq items n, slots := sl } ∧ R (.ok (.ret (Value.ref l))) s) :=
  .of_wp fun prog w A R s h => by
    obtain ⟨hp, g, d, tk, os⟩ := s
    obtain ⟨hl, h⟩ := h
    have f1 := AutoSeq1.idx_int
    wp_walk using wpAny_loadPart' hl
    exact ⟨_, rfl, h⟩
def rRep1 (K : PySem.W.Frag) : R2 := fun x y H Q => ∃ l xs, x = .ref l ∧ y = .int 1 ∧ SqT K H l xs ∧ Q (.ref l) H
section
variable {X : Cx}
theorem op_rep1 : OpR X (binaryOp .Mult) (rRep1 X.K) := by
  intro pins s σ H x y v u Q I rx ry h
  obtain ⟨l, xs, rfl, rfl, hT, q⟩ := h
  cases rx
  obtain ⟨t, rfl⟩ := ry
  obtain ⟨its, r, ⟨⟨cls, dd, data, sl⟩, ho, hc, n, hd⟩, hs⟩ := I.tuple hT
  simp only at hc hd
  subst hc hd
  refine wpAny_binaryOp_repeat_ref (T := "tuple") (U := "int") (by decide) ⟨_, ho, rfl⟩ (fun s' => typeIs_int s' 1 t) noFill_tuple_mul PySem.F.fills_int_mul PySem.F.slot_int_rmul repeat_tuple PySem.F.slot_int_index.lookup
    (call_meets PySem.F.slot_int_rmul (typeIs_int s 1 t) PySem.F.entry_int_rmul (PySem.F.args_int_rmul_2 _ _) (int_rmul_tuple 1 t l its.toArray n dd sl)
      ⟨ho, rfl, ⟨_, ho, rfl⟩, call_meets PySem.F.slot_tuple_mul ⟨_, ho, rfl⟩ PySem.F.entry_tuple_mul (PySem.F.args_tuple_mul_2 _ _) (tuple_mulOne l its.toArray n dd sl t) ⟨ho, ?_⟩⟩)
  exact ⟨.ref l, H, I, rfl, q⟩
/-- times, by one too -/
def mul2D (d e : D) : Option D := match d, e with
  | .tup xs, .int k => if k = 1 then some (.tup xs) else mulD (.tup xs) (.int k)
  | d, e => mulD d e
theorem o_mul2 {fr : Fr} : Op2 X fr (binaryOp .Mult) mul2D := ⟨fun H F g x y d1 d2 d b r1 r2 e => by
  unfold mul2D at e
  split at e
  · split at e
    · rename_i xs k hk
      cases e
      subst hk
      obtain ⟨a, vs, rfl, h1, q⟩ := r_tup r1
      exact ⟨_, op_rep1, a, vs, rfl, r_int r2, SqT.of h1, hit_here b r1⟩
    · exact o_mul.at_ H F g x y _ _ d b r1 r2 e
  · exact o_mul.at_ H F g x y _ _ d b r1 r2 e⟩
end
end VC

/-! VC28: except clauses with and without a name; X() raised; what catches a word. -/
namespace VC
open PySem PySem.Spec L2 RZ
open PyProof.Rows hiding St

def wMix (K : PySem.W.Frag) (Wout : WX) (i : Nat) (D : Ends) : List (Bool × Value × (Addr → Value → Option Addr → TS)) → WX
  | [] => Wout
  | (true, c, ts) :: r => fun cls d σ H => ∃ b, PySem.W.exmOne K cls c = some b ∧ (b = true → ∀ a, H a = none → ts a cls d (asEnds i D) (σ.set i (some (.ref a))) H) ∧ (b = false → wMix K Wout i D r cls d σ H)
  | (false, c, ts) :: r => fun cls d σ H => ∃ b, PySem.W.exmOne K cls c = some b ∧ (b = true → ∀ a, H a = none → ts a cls d D σ H) ∧ (b = false → wMix K Wout i D r cls d σ H)
inductive HdsMix (X : Cx) (n : Str) : List ExceptHandler → List (Bool × Value × (Addr → Value → Option Addr → TS)) → Prop
  | nil : HdsMix X n [] []
  | as {x : Str} {c : Value} {ts : Addr → Value → Option Addr → TS} {b₀ : Stmt} {suite : List Stmt} {np pos' : Pos} {hds : List ExceptHandler} {l : List (Bool × Value × (Addr → Value → Option Addr → TS))} (hc : Names X x c)
      (hsu : ∀ (a : Addr) (oe : Obj) (cls : Value) (d : Option Addr) (pn : List (Addr × Obj)), Zc cls d oe → (∃ vs, oe.data = .fields vs) → PSs (X.suite a ((a, oe) :: pn)) (b₀ :: suite) (ts a cls d)) (r : HdsMix X n hds l) :
      HdsMix X n (.ExceptHandler (some (.Name x np)) (some n) (b₀ :: suite) pos' :: hds) ((true, c, ts) :: l)
  | no {x : Str} {c : Value} {ts : Addr → Value → Option Addr → TS} {b₀ : Stmt} {suite : List Stmt} {np pos' : Pos} {hds : List ExceptHandler} {l : List (Bool × Value × (Addr → Value → Option Addr → TS))} (hc : Names X x c)
      (hsu : ∀ (a : Addr) (oe : Obj) (cls : Value) (d : Option Addr) (pn : List (Addr × Obj)), Zc cls d oe → (∃ vs, oe.data = .fields vs) → PSs (X.suite a ((a, oe) :: pn)) (b₀ :: suite) (ts a cls d)) (r : HdsMix X n hds l) :
      HdsMix X n (.ExceptHandler (some (.Name x np)) none (b₀ :: suite) pos' :: hds) ((false, c, ts) :: l)
section
variable {X : Cx} {n : Str} {i : Nat} {body : List Stmt} {h₀ : ExceptHandler} {hds : List ExceptHandler} {l : List (Bool × Value × (Addr → Value → Option Addr → TS))} {pos : Pos} {tb : WX → TS} {Wout : WX}
theorem ps_try_mix (hs : X.stack = X.env :: X.outer) (hf : X.env.frame = some X.env.locals) (hN : X.N.Nodup) (hi : X.N[i]? = some n) (hln : X.env.kindOf n = some .local) (tk : L2.Takes X Wout)
    (hb : ∀ (W : WX) (pn : List (Addr × Obj)) (xe : Value → Shared → Prop), L2.Takes (X.tr pn xe) W → PassesOwn (model X.prog X.w) X.A X.env xe → PSs (X.tr pn xe) body (tb W))
    (hh : HdsMix X n (h₀ :: hds) l) : PS X (.Try body (h₀ :: hds) [] [] pos) (fun D σ H => tb (wMix X.K Wout i D l) D σ H) := by
  refine ⟨fun pins s σ H D I h => ?_⟩
  have ok := I.ok
  have hfr : X.A.frames = some (X.env :: X.outer) := by rw [ok.frames, hs]
  have hloc : Loc X.env.scope n := .inl hln
  refine wpAny_Try_except ?_
  refine wpAny_mono ((hb (wMix X.K Wout i D l) (X.pn ++ pins) (fun e s₁ => wpAny (model X.prog X.w) X.A (noteFrame e X.env) (fun _ s₂ => wpAny (model X.prog X.w) X.A (setFlight e none) (fun _ s₃ =>
    wpAny (model X.prog X.w) X.A (handleBy e X.env (h₀ :: hds)) (SP X pins D) X.xe s₃) X.xe s₂) X.xe s₁) (fun u s' xx => ?_) PassesOwn.looking).run [] s σ H D (I.toTry _) h) (fun f s1 hsp => ?_) (fun e s1 he => he)
  · obtain ⟨a, B, sI, pins', σ', H', cls, d, rfl, J', nb, up, sky, na, os, ag, w⟩ := xx
    have J : Inv X pins σ' H' sI := J'.ofTry ok
    have sky' : Sky B (X.env :: X.outer) a (Zc cls d) X.env.locals s'.heap := by rw [← hs]; exact sky
    show wpAny (model X.prog X.w) X.A (noteFrame (.ref a) X.env) _ _ _
    refine Sky.land Zc.steady hfr hf sky' fun h3 fl3 up3 => ?_
    have J3 : Inv X pins σ' H' { s' with heap := h3 } := J.landed nb fl3.1 (up.trans up3) os ag
    obtain ⟨oe3, vs3, he3, hz3, hd3⟩ := fl3.there
    have notFr : ∀ {h : Heap} {o : Obj} {vs : Array Value}, h.FunFrames B (X.env :: X.outer) → h.get? a = some o → o.data = .fields vs → a ∉ frs (X.env :: X.outer) := fun {h o vs} ff e dd hm => by
      obtain ⟨_, o', e', hnf⟩ := ff.mem hm
      rw [e] at e'; cases e'
      exact hnf _ dd
    have nfr := notFr fl3.2.2.1 he3 hd3
    have nL : a ≠ X.env.locals := fun z => nfr (List.mem_filterMap.mpr ⟨X.env, List.mem_cons_self, by rw [hf, z]⟩)
    have nF : a ∉ X.fs := fun hm => by
      obtain ⟨e, he, q⟩ := List.mem_filterMap.mp hm
      exact nfr (List.mem_filterMap.mpr ⟨e, List.mem_cons_of_mem _ he, q⟩)
    have S3 := J3.suite he3 hd3 na nL nF
    have go : ∀ {hds' : List ExceptHandler} {l' : List (Bool × Value × (Addr → Value → Option Addr → TS))}, HdsMix X n hds' l' → wMix X.K Wout i D l' cls d σ' H' →
        wpAny (model X.prog X.w) X.A (handleBy (.ref a) X.env hds') (SP X pins D) X.xe { s' with heap := h3 } := by
      intro hds' l' hk
      induction hk with
      | nil =>
        intro w
        refine wpAny_handleBy_nil ?_
        obtain ⟨k1, k2, k3, oe, vs, T, oT, ts', he, hz, hd, h1, hr⟩ := id fl3
        unfold PySem.passOn
        refine wpAny_bind (wpAny_field he hd h1 ?_)
        rw [if_neg (show ¬ ((Value.ref T == Value.none) = true) from by simp)]
        have fin : wpAny (model X.prog X.w) X.A (setFlight (.ref a) X.env.frame) (fun _ s4 => wpAny (model X.prog X.w) X.A (throw (.ref a) : Sem Flow) (SP X pins D) X.xe s4) X.xe { s' with heap := h3 } := by
          rw [hf]
          refine HandSPX.setFlight_upZ fl3 fun h4 hh4 up4 => wpAny_throw (tk _ _ ?_)
          exact ⟨a, B, sI, pins, σ', H', cls, d, rfl, J, nb, (up.trans up3).trans up4, .inr (.inr (by rw [hs]; exact hh4)), na, os, ag, w⟩
        first
          | exact wpAny_bind (wpAny_pure (wpAny_bind fin))
          | exact wpAny_bind fin
      | @as x c ts b₀ suite np pos' hds2 l2 hc hsu r ih =>
        intro w
        obtain ⟨b, hb1, hyes, hno⟩ := w
        refine wpAny_handleBy_cons (codeAny_handlers_test ?_) (by intro q; cases q)
        have LT : PySem.W.Looks (model X.prog X.w) h3 (typeOf (.ref a)) cls := fun A Q E s k q => wpAny_typeOf_ref (k _ _ he3) (by rw [hz3.1]; exact q)
        have LM := PySem.W.exm_one (M := model X.prog X.w) (J3.kIn) LT hb1
        have test : ∀ {Q : Value → Shared → Prop} {E : Value → Shared → Prop}, Q c { s' with heap := h3 } → wpAny (model X.prog X.w) (X.A.mark (some (.ref a))) (eval (.Name x np) X.env) Q E { s' with heap := h3 } := fun {Q E} q => by
          obtain ⟨hg, hdbg, hm | ⟨hm, hv, hnn⟩⟩ := hc
          · exact ld_glob (X := X.suite a ((a, oe3) :: (X.pn ++ pins))) S3 hg hm q hdbg
          · exact ld_blt (X := X.suite a ((a, oe3) :: (X.pn ++ pins))) S3 hg hm hv q hnn hdbg
        refine test (LM.here ?_)
        cases b with
        | true =>
          refine codeAny_handlers_suite_as ?_
          refine HandSPX.lands_againZ fl3 fun h4 fl4 up4 => ?_
          have J4 : Inv X pins σ' H' { s' with heap := h4 } := J.landed nb fl4.1 ((up.trans up3).trans up4) os ag
          obtain ⟨oe4, vs4, he4, hz4, hd4⟩ := fl4.there
          have S4 := J4.suite he4 hd4 na nL nF
          refine store_ok (X := X.suite a ((a, oe4) :: (X.pn ++ pins))) (v := .ref a) S4 hN hi hloc rfl (fun s5 S5 => ?_) (.inr hln)
          refine wpAny_mono ((hsu a oe4 cls d (X.pn ++ pins) hz4 ⟨_, hd4⟩).run [] s5 _ H' _ S5 (hyes rfl a na)) (fun f s6 hsp => ?_) (fun _ _ z => False.elim z)
          have end_ : ∀ {σ6 : St} {H6 : Hp} {Q : Shared → Prop}, Inv (X.suite a ((a, oe4) :: (X.pn ++ pins))) [] σ6 H6 s6 → (∀ s7, Inv X pins (σ6.set i none) H6 s7 → Q s7) →
              wpAny (model X.prog X.w) X.A (do bindName X.env n .none; unbindBehindTheSuite X.env n pos') (fun _ s7 => Q s7) X.xe s6 := fun {σ6 H6 Q} S6 hq => gone_ok (S6.unsuite ok) hN hi hln hq
          cases f with
          | next =>
            obtain ⟨σ6, H6, S6, q6⟩ := hsp
            exact end_ S6 fun s7 J7 => ⟨_, _, J7, q6⟩
          | brk =>
            obtain ⟨σ6, H6, S6, q6⟩ := hsp
            exact end_ S6 fun s7 J7 => ⟨_, _, J7, q6⟩
          | cont =>
            obtain ⟨σ6, H6, S6, q6⟩ := hsp
            exact end_ S6 fun s7 J7 => ⟨_, _, J7, q6⟩
          | ret u =>
            obtain ⟨v6, σ6, H6, S6, r6, q6⟩ := hsp
            exact end_ S6 fun s7 J7 => ⟨_, _, _, J7, r6, q6⟩
        | false =>
          show wpAny _ X.A (handleBy (.ref a) X.env hds2) _ _ _
          exact ih (hno rfl)
      | @no x c ts b₀ suite np pos' hds2 l2 hc hsu r ih =>
        intro w
        obtain ⟨b, hb1, hyes, hno⟩ := w
        refine wpAny_handleBy_cons (codeAny_handlers_test ?_) (by intro q; cases q)
        have LT : PySem.W.Looks (model X.prog X.w) h3 (typeOf (.ref a)) cls := fun A Q E s k q => wpAny_typeOf_ref (k _ _ he3) (by rw [hz3.1]; exact q)
        have LM := PySem.W.exm_one (M := model X.prog X.w) (J3.kIn) LT hb1
        have test : ∀ {Q : Value → Shared → Prop} {E : Value → Shared → Prop}, Q c { s' with heap := h3 } → wpAny (model X.prog X.w) (X.A.mark (some (.ref a))) (eval (.Name x np) X.env) Q E { s' with heap := h3 } := fun {Q E} q => by
          obtain ⟨hg, hdbg, hm | ⟨hm, hv, hnn⟩⟩ := hc
          · exact ld_glob (X := X.suite a ((a, oe3) :: (X.pn ++ pins))) S3 hg hm q hdbg
          · exact ld_blt (X := X.suite a ((a, oe3) :: (X.pn ++ pins))) S3 hg hm hv q hnn hdbg
        refine test (LM.here ?_)
        cases b with
        | true =>
          refine codeAny_handlers_suite ?_
          refine HandSPX.lands_againZ fl3 fun h4 fl4 up4 => ?_
          have J4 : Inv X pins σ' H' { s' with heap := h4 } := J.landed nb fl4.1 ((up.trans up3).trans up4) os ag
          obtain ⟨oe4, vs4, he4, hz4, hd4⟩ := fl4.there
          have S4 := J4.suite he4 hd4 na nL nF
          refine wpAny_mono ((hsu a oe4 cls d (X.pn ++ pins) hz4 ⟨_, hd4⟩).run [] _ _ H' _ S4 (hyes rfl a na)) (fun f s6 hsp => ?_) (fun _ _ z => False.elim z)
          cases f with
          | next =>
            obtain ⟨σ6, H6, S6, q6⟩ := hsp
            exact ⟨_, _, S6.unsuite ok, q6⟩
          | brk =>
            obtain ⟨σ6, H6, S6, q6⟩ := hsp
            exact ⟨_, _, S6.unsuite ok, q6⟩
          | cont =>
            obtain ⟨σ6, H6, S6, q6⟩ := hsp
            exact ⟨_, _, S6.unsuite ok, q6⟩
          | ret u =>
            obtain ⟨v6, σ6, H6, S6, r6, q6⟩ := hsp
            exact ⟨_, _, _, S6.unsuite ok, r6, q6⟩
        | false =>
          show wpAny _ X.A (handleBy (.ref a) X.env hds2) _ _ _
          exact ih (hno rfl)
    exact go hh w
  · cases f with
    | next =>
      obtain ⟨σ', H', J', q⟩ := hsp
      exact wpAny_execs_nil ⟨σ', H', J'.ofTry ok, q⟩
    | brk =>
      obtain ⟨σ', H', J', q⟩ := hsp
      exact ⟨σ', H', J'.ofTry ok, q⟩
    | cont =>
      obtain ⟨σ', H', J', q⟩ := hsp
      exact ⟨σ', H', J'.ofTry ok, q⟩
    | ret u =>
      obtain ⟨v, σ', H', J', r, q⟩ := hsp
      exact ⟨v, σ', H', J'.ofTry ok, r, q⟩
end

/-! ### X(), X without its own __init__ -/
section
variable {X : Cx} {C : Addr} {bmB : List Value} {B newId initId : String}
theorem pmk_own0 {x : Str} {p pos : Pos} (F : ExcBaseFacts B newId initId bmB) (q : PySem.W.excIn X.K C bmB newId = true) (gC : X.mg x = some (.ref C)) (kC : PySem.W.keepIn X.K (.ref C) = true) (r : Raises X (.ref C)) (hg : Gl X x)
    (hdb : (x == ("__debug__" : Str)) = false := by decide) : PMk X (.Call (.Name x p) [] [] pos) (fun _ H Q => Q (.ref C) none H) := by
  intro pins s σ H Q I h
  refine wpAny_Call_Name_kw (ld_glob I hg gC ?_ hdb)
  refine PySem.W.callWith_K0 I.kIn kC ?_
  show wpAny _ _ (call (.ref C) []) _ _ _
  obtain ⟨bm, N, nm, qn, bs, hdct, sn, sub, ab, col, dd, k0, k1, k2, k3, k5, mN, hC, hN, hni, T⟩ := exc_obj I.kIn q
  refine wpAny_call_exc_subT F T hC hN hni (fun h' e hm => ?_) (by show 0 ≤ sizeLine; exact Nat.zero_le _)
  exact mk_of I hm r h (I.hok.gone hm.new)
end
def raiseS0 (c : Nat) : SX := fun _ g => .exn c .non g
section
variable {X : Cx} {fs : Fs} {L O O' : List Nat} {st : Stmt}
theorem sv_raise0 {c : Nat} {C : Addr} (h : PS X st (fun _ σ H => fs.fr.W (.ref C) none σ H)) (hx : fs.fr.xc c = some (C, none)) : SV X fs L O st (raiseS0 c) O' := by
  refine ⟨fun pins s σ H D I ⟨F, env, g, r, hg⟩ => h.run pins s σ H D I ?_⟩
  exact hg σ _ F _ _ r.ext r.bag ⟨C, none, hx, rfl, rfl⟩
end
end VC

/-! VC29: len of an owned dict; written tuples; a class without its own __init__; what catches a word; defs that call themselves. -/
namespace VC
open PySem PySem.Spec L2 RZ
open PyProof.Rows hiding St

/-! ### len of a dict -/
def lenDL : List D → Option D
  | [.dK ks _] => some (.int ks.length)
  | ds => lenL ds
def rLenD : List V → Hp → VK → Prop := fun xs H Q => ∃ a, xs = [.ref a] ∧ ∃ kvs : List (Key × V), Rd H a (.dK kvs) ∧ Q (.int kvs.length) H
section
variable {X : Cx} {fr : Fr} {pos : Pos} {e : Expr} {es : List Expr} {ρ : EX} {ρs : AX}
theorem call_lenD : CallR X (.builtin "len") rLenD := by
  intro pins s σ H xs us Q I r h
  obtain ⟨a, rfl, kvs, e, q⟩ := h
  obtain ⟨u, rfl, rx⟩ := vals1 r
  cases (show u = Value.ref a from rx)
  exact d_len I e fun t s' I' => ⟨.int kvs.length, H, I', ⟨t, rfl⟩, q⟩
theorem o_lenD : OpL X fr (.builtin "len") lenDL := ⟨fun H F g xs ds d b rs h => by
  unfold lenDL at h
  split at h
  · rename_i ks ys
    cases h
    obtain ⟨v, rfl, rv⟩ := rs1 rs
    obtain ⟨a, kv, rfl, f, h1, rfl, rr⟩ := r_dK rv
    exact ⟨_, call_lenD, a, rfl, kv, h1, hit_here b (by rw [List.length_map]; exact int_r)⟩
  · exact o_len.at_ H F g xs _ d b rs h⟩
end
/-! ### x in a dict, as a test -/
theorem Room.v5 {k : Nat} {A : Around} (r : Room k A) : A.units + 65 < cLine := by have := r.un; omega
section
variable {X : Cx} {fr : Fr} {pos : Pos} {a b i o : Expr} {ρ κ : EX}
theorem tv_pc {op : CmpOp} {t : TE} (h : PC X op a b t) (f : ∀ σ H Q env F g, ER fr F env σ H g → Got fr F σ H Q (ρ env g) → t σ H Q) (hm : behindInMarks op b = false) : TV X fr (.Compare a [op] [b] pos) (valT ρ) := by
  refine ⟨fun pins s σ H Q I ⟨env, F, g, r, hg⟩ => (pt_cmp h hm).run pins s σ H Q I ?_⟩
  refine f σ H (fun v H' => ∃ d, v = .bl d ∧ Q d H') env F g r ?_
  unfold valT M.bnd at hg
  cases ho : ρ env g with
  | bad => rw [ho] at hg; exact (show False from hg).elim
  | exn c p g' => rw [ho] at hg; exact hg
  | ok d g' =>
    rw [ho] at hg
    have hg : GotB fr F σ H Q (M.ofO (asB d) g') := hg
    obtain ⟨k, ek, hg⟩ := ofOB_got hg
    cases d with
    | bl b' =>
      have e : k = b' := (Option.some.inj ek).symm
      subst e
      exact fun v H' F' ex bk q => ⟨k, by unfold R at q; exact q, hg H' F' ex bk⟩
    | _ => cases ek
theorem tv_din (hu : X.A.units + 64 < cLine) (hi : EV X fr i κ) (ho : EV X fr o ρ) (hm : behindInMarks .In o = false := by rfl) : TV X fr (.Compare i [.In] [o] pos) (valT (bin2 inVD κ ρ)) := by
  refine tv_pc (pc_din (by omega) hi ho) (fun σ H Q env F g r hg => ?_) hm
  refine got_seq r hg fun d g1 H1 F1 v hoo ex er q hq => got_seq er hq fun k g2 H2 F2 w hoo2 ex2 er2 q2 hq2 => ?_
  obtain ⟨x, hx, hq3⟩ := ofO_got hq2
  obtain ⟨b, hb, rfl⟩ := Option.map_eq_some_iff.mp hx
  obtain ⟨a, u, rfl, dg, eb⟩ := hasD_some q2 (q.ext er.bag ex2) hb
  exact ⟨a, u, rfl, dg, by rw [eb]; exact got_hit hq3 (hit_here er2.bag bl_r)⟩
theorem tv_dnotin (hu : X.A.units + 64 < cLine) (hi : EV X fr i κ) (ho : EV X fr o ρ) (hm : behindInMarks .NotIn o = false := by rfl) : TV X fr (.Compare i [.NotIn] [o] pos) (valT (bin2 notInVD κ ρ)) := by
  refine tv_pc (pc_dnotin (by omega) hi ho) (fun σ H Q env F g r hg => ?_) hm
  refine got_seq r hg fun d g1 H1 F1 v hoo ex er q hq => got_seq er hq fun k g2 H2 F2 w hoo2 ex2 er2 q2 hq2 => ?_
  obtain ⟨x, hx, hq3⟩ := ofO_got hq2
  obtain ⟨b, hb, rfl⟩ := Option.map_eq_some_iff.mp hx
  obtain ⟨a, u, rfl, dg, eb⟩ := hasD_some q2 (q.ext er.bag ex2) hb
  exact ⟨a, u, rfl, dg, by rw [eb]; exact got_hit hq3 (hit_here er2.bag bl_r)⟩
end
/-! ### written tuples -/
theorem sqt_lit {K : PySem.W.Frag} {p : Addr} {od : Option Addr} {its : Array Value} {n : Nat} {sl : Array (Option Value)} {xs : List V} (h : K.lookup p = some ⟨.type "tuple", od, .seq its n, sl⟩) (hz : its.size ≤ sizeLine) (hv : Vals xs its.toList) : ∀ H, SqT K H p xs := fun H => .inr ⟨_, its, n, h, rfl, rfl, hz, hv⟩
/-! ### a class without its own __init__ -/
structure ExcDef0 (K : PySem.W.Frag) (mg : Str → Option Value) (x : Str) where
  C : Addr
  q : PySem.W.excIn K C [.type "ValueError", .type "Exception", .type "BaseException", .type "object"] "ValueError.__new__" = true
  m : mg x = some (.ref C)
  k : PySem.W.keepIn K (.ref C) = true
  s : PySem.W.subIn K (.ref C) (.type "BaseException") = some true
  t : PySem.W.typeIn K (.ref C) = some (.type "type")
  te : PySem.W.exmOne K (.ref C) (.ref C) = some true
theorem ps_raise0 {X : Cx} {W : WX} {x : Str} {p pos pos2 : Pos} (E : ExcDef0 X.K X.mg x) (hc : X.calm = true) (tk : L2.Takes X W) (hg : Gl X x) (hdb : (x == ("__debug__" : Str)) = false := by decide) :
    PS X (.Raise (some (.Call (.Name x p) [] [] pos)) none pos2) (fun _ σ H => W (.ref E.C) none σ H) :=
  ps_raise hc tk (pmk_own0 PySem.F.excBase_ValueError E.q E.m E.k (raises_own E.s E.t) hg hdb)
/-! ### what catches a word -/
def catchW (m : M D) : M D := fun g => match m g with
  | .exn c p g' => if c = 0 then .ok p g' else if c = 1 then .ok (.str "word") g' else .bad
  | .ok _ g' => .ok .non g'
  | .bad => .bad
def spWord (β : Bx) (ρ : FX) (fj : Addr) : Sp := fun vs H Q _ => ∃ v1 v2, vs = [.ref fj, v1, v2] ∧ ∃ F g ds, BagOk β F H g ∧ Rs H F β ds [v1, v2] ∧ match catchW (ρ ds) g with
  | .bad => False
  | .ok d g' => ∀ v H' F', Ext β F H F' H' → BagOk β F' H' g' → R H' F' β d v → Q v H'
  | .exn _ _ _ => False
def wordE (ρ : FX) (ρs : AX) : EX := fun env => M.bnd (ρs env) fun ds => if ds.length = 2 then catchW (ρ ds) else M.bad
theorem catchW_nx {m : M D} {g g' : Bag} {c : Nat} {p : D} : catchW m g ≠ .exn c p g' := fun h => by
  unfold catchW at h
  split at h
  · split at h
    · cases h
    · split at h <;> cases h
  · cases h
  · cases h
section
variable {X : Cx} {fr : Fr} {k : Nat} {f : Addr} {fd : FuncData} {ps : List Str} {x : Str} {p pos : Pos} {es : List Expr} {ρs : AX}
theorem ev_word {j : Str} {fj : Addr} {ρj : FX} {pj : Pos} (G : FnOk X.prog X.w X.K X.mg X.base (L2.CX X.prog X.w) k f fd ps (spWord fr.β ρj fj)) (hr : Room k X.A) (hg : Gl X x) (hm : X.mg x = some (.ref f)) (hk : PySem.W.keepIn X.K (.ref f) = true) (hb : Binds X.K fd ps [])
    (hgj : Gl X j) (hmj : X.mg j = some (.ref fj)) (ha : AV X fr es ρs)
    (hdj : (j == ("__debug__" : Str)) = false := by decide) (hdb : (x == ("__debug__" : Str)) = false := by decide) (he : starEach (.Name j pj :: es) X.env = (false, eval (.Name j pj) X.env) :: starEach es X.env := by rfl) (hpl : (backTo pos (starEach es X.env)).any (·.1) = false := by rfl) :
    EV X fr (.Call (.Name x p) (.Name j pj :: es) [] pos) (wordE ρj ρs) := by
  refine ev_of _ _ _ (pe_call G hr hg hm hk hb .nil passL (pa_cons (pe_fnN hgj hmj hdj) ha he) hdb he hpl) fun σ H Q env F g r hgt => ?_
  refine gotLE r hgt fun ds g1 H1 F1 vs ho ex er q hq => ?_
  show spWord fr.β ρj fj ((.ref fj :: vs) ++ []) H1 Q E0
  rw [List.append_nil]
  by_cases hl : ds.length = 2
  · rw [if_pos hl] at hq
    match vs, (show vs.length = 2 by rw [← q.length]; exact hl) with
    | [v1, v2], _ =>
      refine ⟨v1, v2, rfl, F1, g1, ds, er.bag, q, ?_⟩
      cases hc : catchW (ρj ds) g1 with
      | bad => rw [hc] at hq; exact hq
      | ok d g' => rw [hc] at hq; exact hq
      | exn c pp g' => exact catchW_nx hc
  · rw [if_neg hl] at hq
    exact (show False from hq).elim
end
/-! ### a def that calls itself -/
theorem fnBad {P : Program} {w : World} {K : PySem.W.Frag} {mg : Str → Option Value} {base : Heap} {CX : CXT} {k : Nat} {f : Addr} {fd : FuncData} {ps : List Str} {β : Bx} {xc : Nat → Option (Addr × Option Str)} : FnOk P w K mg base CX k f fd ps (spV β xc ps.length fun _ => M.bad) :=
  ⟨fun vs H Q E h => h.1, fun A outer s H args us vs Q E hr he hb hv h => by
    obtain ⟨_, F, g, ds, b, q, hm⟩ := h
    exact (show False from hm).elim⟩
/-- what calls itself at most n deep -/
noncomputable def recD (N : List Str) (ρ : FX → SX) : Nat → FX
  | 0 => fun _ => M.bad
  | n + 1 => fnD N (ρ (recD N ρ n))
end VC

/-! VC30: the bag, the law's own spec, the walk of the whole. -/
namespace VC
open PySem PySem.Spec L2 RZ
open PyProof.Rows hiding St

theorem fn_all {ι : Type} {P : Program} {w : World} {K : PySem.W.Frag} {mg : Str → Option Value} {base : Heap} {CX : CXT} {k : Nat} {f : Addr} {fd : FuncData} {ps : List Str} {sp : ι → Sp} (h : ∀ i, FnOk P w K mg base CX k f fd ps (sp i)) (i0 : ι) :
    FnOk P w K mg base CX k f fd ps (fun vs H Q E => ∃ i, sp i vs H Q E) :=
  ⟨fun vs H Q E ⟨i, q⟩ => (h i).len vs H Q E q, fun A outer s H args us vs Q E hr he hb hv ⟨i, hs⟩ => (h i).run A outer s H args us vs Q E hr he hb hv hs⟩
theorem sql_keep {K : PySem.W.Frag} {H H' : Hp} {a : Addr} {xs : List V} (h : SqL K H a xs) (k : ∀ b o, H b = some o → H' b = some o) : SqL K H' a xs := by
  rcases h with h | h
  · rcases h with h | ⟨o, h⟩
    · exact .inl (.inl (k _ _ h))
    · exact .inl (.inr ⟨o, k _ _ h⟩)
  · exact .inr h
def cellAt (ns : List Int) (k : Int) : Int := if k < ns.length then ns.getD k.toNat 0 else 0
def bagOf (ns : List Int) (k : Int) : Bag := ⟨if 10 ^ 18 ≤ cellAt ns k then (cellAt ns k, cellAt ns k, k) else (0, cellAt ns k, k), []⟩
def spBag (K : PySem.W.Frag) : Sp := fun vs H Q _ => ∃ (a : Addr) (ns : List Int) (k : Int), vs = [.ref a, .int k] ∧ SqL K H a (ns.map V.int) ∧ 0 ≤ k ∧ ∀ p, H p = none → Q (.ref p) (upd H p (.lst (bagV (bagOf ns k))))
def spLaw (K : PySem.W.Frag) : Sp := fun vs H Q _ => ∃ (a : Addr) (ns : List Int), vs = [.ref a] ∧ SqL K H a (ns.map V.int) ∧ ns.length ≤ 63 ∧ ∀ H', Q (.bl true) H'
theorem bag_ok {w : World} {H : Hp} {p : Addr} {g : Bag} (hg : g.cs = []) (hp : H p = none) : BagOk ⟨some p, w⟩ ⟨fun _ => False, []⟩ (upd H p (.lst (bagV g))) g where
  live := fun a z => z.elim (fun z => z.elim) fun z => by cases z
  at_ := fun b hb => by
    cases hb
    exact ⟨fun z => z.elim (fun z => z.elim) (fun z => by cases z), upd_same⟩
  len := by rw [hg]; rfl
  nd := List.nodup_nil
  nf := fun a z => by cases z
  cell := fun n a c z => by simp at z
  fl := fun c z => by rw [hg] at z; cases z
theorem walk {l : PySem.W.OpenLaw} {q : Program} {loose : List Str} {XP : (Str → Option Value) → Heap → Prop} {YP : World → Heap → Prop} {d : DefRec} {K : Params → PySem.W.Frag} (k : Nat) (hr : Room k callerA) (hn : l.most = some 63) (hdf : d.params.defaults = [])
    (hY : ∀ (w : World) (h : Heap), YP w h → (K w.params).In h)
    (F : ∀ (w : World) (mg : Str → Option Value) (fa : Addr) (h : Heap), (K w.params).In h → h.Ns mainGlobals mg → mg d.name = some (.ref fa) →
      ∃ fd : FuncData, (∀ (s : Shared) (u : Value), BindsTo s fd ⟨[u], []⟩ [("script", u)]) ∧ ∀ base : Heap, (K w.params).In base → base.Ns mainGlobals mg → FnOk l.prog w (K w.params) mg base (L2.CX l.prog w) k fa fd ["script"] (spLaw (K w.params))) :
    PySem.W.WalkO q loose XP YP l.row.toRowW d [] (fun f vs => PySem.call f vs) :=
  L2.walk_of (n := 63) (k := k) (x := "script") (CX := fun w => L2.CX l.prog w) (sp := fun w => spLaw (K w.params)) hn (by decide) hdf hr hY F (fun _ _ a ns hl _ hS => ⟨a, ns, rfl, hS, hl, fun _ => rfl⟩) fun _ _ _ _ _ z => by
    obtain ⟨_, _, _, _, _, _, _, _, _, _, _, _, z⟩ := z
    exact z
end VC

/-! PV1: the functions of slots run on shapes: what simp wants. -/
namespace VC
open PySem PySem.Spec L2 RZ
open PyProof.Rows hiding St

section
variable {α β γ : Type}
@[simp] theorem bnd_ret (a : α) (f : α → M β) : M.bnd (M.ret a) f = f a := rfl
@[simp] theorem bnd_badM (f : α → M β) : M.bnd M.bad f = M.bad := rfl
@[simp] theorem bnd_assoc (m : M α) (f : α → M β) (h : β → M γ) : M.bnd (M.bnd m f) h = M.bnd m (fun a => M.bnd (f a) h) := M.assoc m f h
@[simp] theorem ofO_someM (a : α) : M.ofO (some a) = M.ret a := rfl
@[simp] theorem ofO_noneM : M.ofO (none : Option α) = M.bad := rfl
@[simp] theorem noX_ret (a : α) : noX (M.ret a) = M.ret a := rfl
@[simp] theorem bnd_ite (c : Prop) [Decidable c] (a b : M α) (f : α → M β) : M.bnd (if c then a else b) f = if c then M.bnd a f else M.bnd b f := by split <;> rfl
@[simp] theorem ofO_ite (c : Prop) [Decidable c] (a b : Option α) : M.ofO (if c then a else b) = if c then M.ofO a else M.ofO b := by split <;> rfl
theorem ret_app (a : α) (g : Bag) : M.ret a g = .ok a g := rfl
theorem bnd_app (m : M α) (f : α → M β) (g : Bag) : M.bnd m f g = match m g with
  | .bad => .bad
  | .ok a g' => f a g'
  | .exn c p g' => .exn c p g' := rfl
theorem bnd_okM {m : M α} {f : α → M β} {g g' : Bag} {a : α} (h : m g = .ok a g') : M.bnd m f g = f a g' := by rw [bnd_app, h]
theorem noX_okM {m : M α} {g g' : Bag} {a : α} (h : m g = .ok a g') : noX m g = .ok a g' := by unfold noX; rw [h]
end
section
variable {env : Slots} {g : Bag}
@[simp] theorem varE_eq (i : Nat) (env : Slots) : varE i env = M.ofO (env[i]?.bind id) := rfl
@[simp] theorem cE_eq (d : D) (env : Slots) : cE d env = M.ret d := rfl
@[simp] theorem bin2_eq (q : D → D → Option D) (a b : EX) (env : Slots) : bin2 q a b env = M.bnd (a env) fun x => M.bnd (b env) fun y => M.ofO (q x y) := rfl
@[simp] theorem un1_eq (q : D → Option D) (a : EX) (env : Slots) : un1 q a env = M.bnd (a env) fun x => M.ofO (q x) := rfl
@[simp] theorem nilA_eq (env : Slots) : nilA env = M.ret [] := rfl
@[simp] theorem consA_eq (a : EX) (b : AX) (env : Slots) : consA a b env = M.bnd (a env) fun x => M.bnd (b env) fun xs => M.ret (x :: xs) := rfl
@[simp] theorem tupE_eq (b : AX) (env : Slots) : tupE b env = M.bnd (b env) fun ds => M.ofO (if ds.length ≤ 1000 then some (.tup ds) else none) := rfl
@[simp] theorem lstE_eq (b : AX) (env : Slots) : lstE b env = M.bnd (b env) fun ds => M.ofO (if ds.length ≤ 1000 then some (.lst ds) else none) := rfl
@[simp] theorem callE_eq (q : List D → Option D) (b : AX) (env : Slots) : callE q b env = M.bnd (b env) fun ds => M.ofO (q ds) := rfl
@[simp] theorem fnE_eq (ρ : FX) (b : AX) (n : Nat) (env : Slots) : fnE ρ b n env = M.bnd (b env) fun ds => if ds.length = n then noX (ρ ds) else M.bad := rfl
@[simp] theorem fnXE_eq (ρ : FX) (b : AX) (n : Nat) (env : Slots) : fnXE ρ b n env = M.bnd (b env) fun ds => if ds.length = n then ρ ds else M.bad := rfl
@[simp] theorem toldE_eq (ρ : FX) (b : AX) (env : Slots) : toldE ρ b env = M.bnd (b env) fun ds => if ds.length = 2 then catchM (ρ ds) else M.bad := rfl
@[simp] theorem ifE_eq (τ : TX) (a b : EX) (env : Slots) : ifE τ a b env = M.bnd (τ env) fun c => if c then a env else b env := rfl
def andK (x : D) (m : M D) : M D := match x with
  | .bl true => m
  | .bl false => M.ret (.bl false)
  | _ => M.bad
def orK (x : D) (m : M D) : M D := match x with
  | .bl false => m
  | .bl true => M.ret (.bl true)
  | _ => M.bad
def notK (x : D) : M D := match x with
  | .bl k => M.ret (.bl (!k))
  | _ => M.bad
@[simp] theorem andE_eq (a b : EX) (env : Slots) : andE a b env = M.bnd (a env) fun x => andK x (b env) := rfl
@[simp] theorem orE_eq (a b : EX) (env : Slots) : orE a b env = M.bnd (a env) fun x => orK x (b env) := rfl
@[simp] theorem notE_eq (a : EX) (env : Slots) : notE a env = M.bnd (a env) notK := rfl
@[simp] theorem andK_bl (b : Bool) (m : M D) : andK (.bl b) m = if b = true then m else M.ret (.bl false) := by cases b <;> rfl
@[simp] theorem orK_bl (b : Bool) (m : M D) : orK (.bl b) m = if b = true then M.ret (.bl true) else m := by cases b <;> rfl
@[simp] theorem notK_bl (b : Bool) : notK (.bl b) = M.ret (.bl (!b)) := rfl
@[simp] theorem valT_eq (a : EX) (env : Slots) : valT a env = M.bnd (a env) fun d => M.ofO (asB d) := rfl
@[simp] theorem notT_eq (τ : TX) (env : Slots) : notT τ env = M.bnd (τ env) fun b => M.ret (!b) := rfl
@[simp] theorem andT_eq (τ υ : TX) (env : Slots) : andT τ υ env = M.bnd (τ env) fun b => if b then υ env else M.ret false := rfl
@[simp] theorem orT_eq (τ υ : TX) (env : Slots) : orT τ υ env = M.bnd (τ env) fun b => if b then M.ret true else υ env := rfl
@[simp] theorem yesT_eq (env : Slots) : yesT env = M.ret true := rfl
@[simp] theorem slE_eq (a : EX) (l h : PX) (env : Slots) : slE a l h env = M.bnd (a env) fun d => M.bnd (l env) fun i => M.bnd (h env) fun j => M.ofO (slD d i j) := rfl
@[simp] theorem slNE_eq (a : EX) (l h : PX) (env : Slots) : slNE a l h env = M.bnd (a env) fun d => M.bnd (l env) fun i => M.bnd (h env) fun j => M.ofO (slL d i j) := rfl
@[simp] theorem noP_eq (env : Slots) : noP env = M.ret none := rfl
@[simp] theorem someP_eq (a : EX) (env : Slots) : someP a env = M.bnd (a env) fun d => match d with
  | .int i => M.ret (some i)
  | _ => M.bad := by
  show (M.bnd (a env) fun d => _) = _
  congr 1
@[simp] theorem isaE_eq (T : String) (a : EX) (env : Slots) : isaE T a env = M.bnd (a env) fun d => M.ofO (isaD T d) := rfl
@[simp] theorem chE_eq (op op' : CmpOp) (a b c : EX) (env : Slots) : chE op op' a b c env = M.bnd (a env) fun x => M.bnd (b env) fun y => M.bnd (M.ofO (asI x)) fun i => M.bnd (M.ofO (asI y)) fun j =>
  if cmpI op i j = true then M.bnd (c env) fun z => M.bnd (M.ofO (asI z)) fun k => M.ret (.bl (cmpI op' j k)) else M.ret (.bl false) := rfl
@[simp] theorem seqI_eq (a : EX) (env : Slots) : seqI a env = M.bnd (a env) fun d => M.ofO (itemsD d) := rfl
@[simp] theorem rng1I_eq (b : AX) (env : Slots) : rng1I b env = M.bnd (b env) fun ds => M.ofO (match ds with
  | [.int j] => if -(2 ^ 62) ≤ j ∧ j < 2 ^ 62 then some (rngD 0 j.toNat) else none
  | _ => none) := rfl
@[simp] theorem zipI_eq (b : AX) (env : Slots) : zipI b env = M.bnd (b env) fun ds => M.ofO (match ds with
  | [.lst xs, .lst ys] => some (zipD xs ys)
  | [.tup xs, .tup ys] => some (zipD xs ys)
  | _ => none) := rfl
@[simp] theorem enumTI_eq (b : AX) (env : Slots) : enumTI b env = M.bnd (b env) fun ds => M.ofO (match ds with
  | [.tup xs] => some (enumD 0 xs)
  | _ => none) := rfl
@[simp] theorem keysI_eq (i : Nat) (env : Slots) : keysI i env = M.ofO (keysAt env i) := rfl
@[simp] theorem lcE_eq (ι : IX) (bd : BX) (τ : TX) (ρ : EX) (vs : List Nat) (env : Slots) : lcE ι bd τ ρ vs env = M.bnd (ι env) fun ds => if ds.length ≤ line then M.bnd (lcGo (wipeE env vs) bd τ ρ ds) fun ys => M.ret (.lst ys) else M.bad := rfl
/-! statements -/
@[simp] theorem nxS_eq (env : Slots) : nxS env = M.ret (.nx env) := rfl
@[simp] theorem seqS_eq (a b : SX) (env : Slots) : seqS a b env = M.bnd (a env) fun fl => match fl with
  | .nx env' => b env'
  | o => M.ret o := rfl
theorem seqS_of {a b : SX} {env env' : Slots} (h : a env = M.ret (.nx env')) : seqS a b env = b env' := by
  rw [seqS_eq, h]
  rfl
theorem seqS_ok {a b : SX} {env env' : Slots} {g g' : Bag} (h : a env g = .ok (.nx env') g') : seqS a b env g = b env' g' := by
  rw [seqS_eq, bnd_okM h]
@[simp] theorem ifS_eq (τ : TX) (a b : SX) (env : Slots) : ifS τ a b env = M.bnd (τ env) fun c => if c then a env else b env := rfl
@[simp] theorem retS_eq (a : EX) (env : Slots) : retS a env = M.bnd (a env) fun d => M.ret (.rt d) := rfl
@[simp] theorem retNS_eq (env : Slots) : retNS env = M.ret (.rt .non) := rfl
@[simp] theorem dropS_eq (a : EX) (env : Slots) : dropS a env = M.bnd (a env) fun _ => M.ret (.nx env) := rfl
@[simp] theorem hide_nil (env : Slots) : hide [] env = env := rfl
theorem hide_cons (v : Nat) (vs : List Nat) (env : Slots) : hide (v :: vs) env = (hide vs env).set v none := rfl
@[simp] theorem wipeE_nil (env : Slots) : wipeE env [] = env := rfl
@[simp] theorem wipeE_cons (v : Nat) (vs : List Nat) (env : Slots) : wipeE env (v :: vs) = (wipeE env vs).set v none := rfl
@[simp] theorem hide_cons' (v : Nat) (vs : List Nat) (env : Slots) : hide (v :: vs) env = (hide vs env).set v none := rfl
@[simp] theorem asgH_eq (O : List Nat) (i : Nat) (a : EX) (env : Slots) : asgH O i a env = M.bnd (a (hide O env)) fun d => M.ret (.nx (env.set i (some d))) := rfl
@[simp] theorem asgF_eq (i : Nat) (a : EX) (env : Slots) : asgF i a env = M.bnd (a env) fun d => if flat d then M.ret (.nx (env.set i (some d))) else M.bad := rfl
@[simp] theorem asgN_eq (i : Nat) (a : EX) (env : Slots) : asgN i a env = M.bnd (a env) fun d => if flatIn d then M.ret (.nx (env.set i (some d))) else M.bad := rfl
@[simp] theorem asgNH_eq (O : List Nat) (i : Nat) (a : EX) (env : Slots) : asgNH O i a env = M.bnd (a (hide O env)) fun d => M.ret (.nx (env.set i (some d))) := rfl
@[simp] theorem appF_eq (i : Nat) (a : EX) (env : Slots) : appF i a env = M.bnd (M.ofO (lstAt env i)) fun xs => M.bnd (a env) fun d => if flat d = true ∧ xs.length < line then M.ret (.nx (env.set i (some (.lst (xs ++ [d]))))) else M.bad := rfl
@[simp] theorem appH_eq (O : List Nat) (i : Nat) (a : EX) (env : Slots) : appH O i a env = M.bnd (M.ofO (lstAt env i)) fun xs => M.bnd (a (hide O env)) fun d => if xs.length < line then M.ret (.nx (env.set i (some (.lst (xs ++ [d]))))) else M.bad := rfl
@[simp] theorem stoH_eq (O : List Nat) (i : Nat) (k a : EX) (env : Slots) : stoH O i k a env = M.bnd (a (hide O env)) fun d => M.bnd (M.ofO (lstAt env i)) fun xs => M.bnd (k (hide O env)) fun k => M.bnd (M.ofO (ixO xs.length k)) fun j =>
  M.ret (.nx (env.set i (some (.lst (xs.set j d))))) := rfl
@[simp] theorem unpH_eq (O : List Nat) (bd : BX) (a : EX) (env : Slots) : unpH O bd a env = M.bnd (a (hide O env)) fun d => M.bnd (M.ofO (bd d)) fun l => if outO O l = true then M.ret (.nx (setsE env l)) else M.bad := rfl
@[simp] theorem unpF_eq (O : List Nat) (bd : BX) (a : EX) (env : Slots) : unpF O bd a env = M.bnd (a env) fun d => M.bnd (M.ofO (bd d)) fun l => if flatL l = true ∧ outO O l = true then M.ret (.nx (setsE env l)) else M.bad := rfl
@[simp] theorem forH_eq (O : List Nat) (ι : IX) (bd : BX) (ρ : SX) (env : Slots) : forH O ι bd ρ env = M.bnd (ι (hide O env)) fun ds => forGo O bd ρ ds env := rfl
@[simp] theorem raiseS_eq (c : Nat) (a : EX) (env : Slots) : raiseS c a env = M.bnd (a env) fun d g => .exn c d g := rfl
@[simp] theorem fnD_eq (N : List Str) (ρ : SX) (ds : List D) : fnD N ρ ds = M.bnd (ρ (startE N ds)) endM := rfl
@[simp] theorem endM_rt (d : D) : endM (.rt d) = M.ret d := rfl
@[simp] theorem endM_nx (e : Slots) : endM (.nx e) = M.ret .non := rfl
theorem fnD_ok {N : List Str} {ρ : SX} {ds : List D} {env : Slots} {g g' : Bag} {d : D} (he : startE N ds = env) (h : ρ env g = .ok (.rt d) g') : fnD N ρ ds g = .ok d g' := by
  subst he
  rw [fnD_eq, bnd_okM h]
  rfl
/-! one step, with what it comes to -/
theorem bin2_of {q : D → D → Option D} {a b : EX} {env : Slots} {x y z : D} (h1 : a env = M.ret x) (h2 : b env = M.ret y) (h3 : q x y = some z) : bin2 q a b env = M.ret z := by
  rw [bin2_eq, h1, bnd_ret, h2, bnd_ret, h3, ofO_someM]
theorem un1_of {q : D → Option D} {a : EX} {env : Slots} {x z : D} (h1 : a env = M.ret x) (h3 : q x = some z) : un1 q a env = M.ret z := by
  rw [un1_eq, h1, bnd_ret, h3, ofO_someM]
theorem call1_of {q : List D → Option D} {a : EX} {env : Slots} {x z : D} (h1 : a env = M.ret x) (h3 : q [x] = some z) : callE q (consA a nilA) env = M.ret z := by
  rw [callE_eq, consA_eq, h1, bnd_ret, nilA_eq, bnd_ret, bnd_ret, h3, ofO_someM]
theorem asgH_of {O : List Nat} {i : Nat} {a : EX} {env : Slots} {d : D} (h : a (hide O env) = M.ret d) : asgH O i a env = M.ret (.nx (env.set i (some d))) := by
  rw [asgH_eq, h, bnd_ret]
theorem asgNH_of {O : List Nat} {i : Nat} {a : EX} {env : Slots} {d : D} (h : a (hide O env) = M.ret d) : asgNH O i a env = M.ret (.nx (env.set i (some d))) := by
  rw [asgNH_eq, h, bnd_ret]
/-! targets -/
@[simp] theorem nameB_eq (i : Nat) (d : D) : nameB i d = some [(i, d)] := rfl
@[simp] theorem nilB_eq : nilB [] = some [] := rfl
@[simp] theorem consB_eq (b : BX) (bs : BXs) (d : D) (r : List D) : consB b bs (d :: r) = (b d).bind fun l => (bs r).map fun m => l ++ m := rfl
@[simp] theorem tupB_eq (n : Nat) (bs : BXs) (xs : List D) : tupB n bs (.tup xs) = if xs.length = n then bs xs else none := rfl
@[simp] theorem setsE_nil (env : Slots) : setsE env [] = env := rfl
@[simp] theorem setsE_cons (env : Slots) (p : Nat × D) (l : List (Nat × D)) : setsE env (p :: l) = setsE (env.set p.1 (some p.2)) l := rfl
@[simp] theorem outO_nilO (l : List (Nat × D)) : outO [] l = true := by
  unfold outO
  exact List.all_eq_true.mpr fun p _ => by simp
@[simp] theorem outO_nilL (O : List Nat) : outO O [] = true := rfl
@[simp] theorem outO_cons (O : List Nat) (i : Nat) (d : D) (l : List (Nat × D)) : outO O ((i, d) :: l) = (decide (i ∉ O) && outO O l) := rfl
@[simp] theorem flatL_nil : flatL [] = true := rfl
@[simp] theorem flatL_cons (i : Nat) (d : D) (l : List (Nat × D)) : flatL ((i, d) :: l) = (flat d && flatL l) := rfl
/-! operations -/
@[simp] theorem addD_ii (i j : Int) : addD (.int i) (.int j) = some (.int (i + j)) := rfl
@[simp] theorem subD_ii (i j : Int) : subD (.int i) (.int j) = some (.int (i - j)) := rfl
@[simp] theorem negD_i (i : Int) : negD (.int i) = some (.int (-i)) := rfl
@[simp] theorem ltD_ii (i j : Int) : ltD (.int i) (.int j) = some (.bl (decide (i < j))) := rfl
@[simp] theorem leD_ii (i j : Int) : leD (.int i) (.int j) = some (.bl (decide (i ≤ j))) := rfl
@[simp] theorem gtD_ii (i j : Int) : gtD (.int i) (.int j) = some (.bl (decide (j < i))) := rfl
@[simp] theorem geD_ii (i j : Int) : geD (.int i) (.int j) = some (.bl (decide (j ≤ i))) := rfl
@[simp] theorem asB_bl (b : Bool) : asB (.bl b) = some b := rfl
@[simp] theorem asI_int (i : Int) : asI (.int i) = some i := rfl
@[simp] theorem itemsD_lst (xs : List D) : itemsD (.lst xs) = some xs := rfl
@[simp] theorem itemsD_tup (xs : List D) : itemsD (.tup xs) = some xs := rfl
@[simp] theorem isNonD_non : isNonD .non .non = some (.bl true) := rfl
@[simp] theorem isNonD_int (i : Int) : isNonD (.int i) .non = some (.bl false) := rfl
@[simp] theorem notNonD_non : notNonD .non .non = some (.bl false) := rfl
@[simp] theorem notNonD_int (i : Int) : notNonD (.int i) .non = some (.bl true) := rfl
@[simp] theorem lenL_tup (xs : List D) : lenL [.tup xs] = some (.int xs.length) := rfl
@[simp] theorem lenL_lst (xs : List D) : lenL [.lst xs] = some (.int xs.length) := rfl
@[simp] theorem intL_int (i : Int) : intL [.int i] = some (.int i) := rfl
@[simp] theorem intL_bl (b : Bool) : intL [.bl b] = some (.int (if b then 1 else 0)) := rfl
@[simp] theorem maxL_ii (i j : Int) : maxL [.int i, .int j] = some (.int (max i j)) := rfl
@[simp] theorem minL_ii (i j : Int) : minL [.int i, .int j] = some (.int (min i j)) := rfl
@[simp] theorem tupL_lst (xs : List D) : tupL [.lst xs] = some (.tup xs) := rfl
@[simp] theorem listL_tup (xs : List D) : listL [.tup xs] = some (.lst xs) := rfl
@[simp] theorem allL_map (bs : List Bool) : allL [.lst (bs.map D.bl)] = some (.bl (bs.all id)) := by
  show (blsOf (bs.map D.bl)).map _ = _
  rw [blsOf_map]
  rfl
@[simp] theorem sumL_map (ns : List Int) : sumL [.lst (ns.map D.int)] = some (.int ns.sum) := by
  show (intsOf (ns.map D.int)).map _ = _
  rw [intsOf_map]
  rfl
@[simp] theorem lstAt_eq (env : Slots) (i : Nat) (xs : List D) (h : env[i]? = some (some (.lst xs))) : lstAt env i = some xs := by
  unfold lstAt
  rw [h]
@[simp] theorem isaD_non (T : String) : isaD T .non = some (.bl (isaB T .non)) := rfl
@[simp] theorem isaD_bl (T : String) (b : Bool) : isaD T (.bl b) = some (.bl (isaB T (.bl b))) := rfl
@[simp] theorem isaD_int (T : String) (b : Int) : isaD T (.int b) = some (.bl (isaB T (.int b))) := rfl
@[simp] theorem isaD_str (T : String) (b : Str) : isaD T (.str b) = some (.bl (isaB T (.str b))) := rfl
@[simp] theorem isaD_tup (T : String) (b : List D) : isaD T (.tup b) = some (.bl (isaB T (.tup b))) := rfl
@[simp] theorem isaD_lst (T : String) (b : List D) : isaD T (.lst b) = some (.bl (isaB T (.lst b))) := rfl
@[simp] theorem isa_int_int (i : Int) : isaB "int" (.int i) = true := by simp [isaB, tyN]
@[simp] theorem isa_int_bl (i : Bool) : isaB "int" (.bl i) = true := by simp [isaB, tyN]
@[simp] theorem isa_int_non : isaB "int" .non = false := by simp [isaB, tyN]
@[simp] theorem isa_bool_int (i : Int) : isaB "bool" (.int i) = false := by simp [isaB, tyN]
@[simp] theorem isa_bool_bl (i : Bool) : isaB "bool" (.bl i) = true := by simp [isaB, tyN]
@[simp] theorem isa_tuple_tup (i : List D) : isaB "tuple" (.tup i) = true := by simp [isaB, tyN]
@[simp] theorem isa_tuple_non : isaB "tuple" .non = false := by simp [isaB, tyN]
@[simp] theorem isa_tuple_lst (i : List D) : isaB "tuple" (.lst i) = false := by simp [isaB, tyN]
@[simp] theorem isa_tuple_int (i : Int) : isaB "tuple" (.int i) = false := by simp [isaB, tyN]
/-! subscripts -/
@[simp] theorem ixD_tup (xs : List D) (i : Int) : ixD (.tup xs) (.int i) = atI xs i := rfl
@[simp] theorem ixD_lst (xs : List D) (i : Int) : ixD (.lst xs) (.int i) = atI xs i := rfl
theorem atI_nat {α : Type} (xs : List α) (i : Nat) : atI xs (i : Int) = xs[i]? := by
  unfold atI ixN
  rw [if_pos (Int.natCast_nonneg i)]
  by_cases h : i < xs.length
  · rw [if_pos (by exact_mod_cast h)]
    rfl
  · rw [if_neg (by exact_mod_cast h), List.getElem?_eq_none (Nat.le_of_not_lt h)]
    rfl
@[simp] theorem atI_0 {α : Type} (x : α) (xs : List α) : atI (x :: xs) 0 = some x := atI_nat (x :: xs) 0
@[simp] theorem atI_1 {α : Type} (x y : α) (xs : List α) : atI (x :: y :: xs) 1 = some y := atI_nat (x :: y :: xs) 1
end

/-! ### == of data without truths -/
mutual
def pl : D → Bool
  | .non => true
  | .int _ => true
  | .str _ => true
  | .tup xs => pls xs
  | .lst xs => pls xs
  | _ => false
def pls : List D → Bool
  | [] => true
  | d :: r => pl d && pls r
end
mutual
theorem pl_plain : ∀ d : D, pl d = true → (toPy d).plain = true
  | .non, _ => rfl
  | .int _, _ => rfl
  | .str _, _ => rfl
  | .bl _, h => by simp [pl] at h
  | .tup xs, h => pls_plain xs (by simpa [pl] using h)
  | .lst xs, h => pls_plain xs (by simpa [pl] using h)
  | .dK _ _, h => by simp [pl] at h
  | .dT _ _, h => by simp [pl] at h
  | .bag, h => by simp [pl] at h
theorem pls_plain : ∀ d : List D, pls d = true → PyData.plainAll (toPys d) = true
  | [], _ => rfl
  | d :: r, h => by
    simp only [pls, Bool.and_eq_true] at h
    simp only [toPys, PyData.plainAll, Bool.and_eq_true]
    exact ⟨pl_plain d h.1, pls_plain r h.2⟩
end
mutual
theorem eqv_pl : ∀ d e : D, pl d = true → pl e = true → (PyData.eqv (toPy d) (toPy e) = true ↔ d = e)
  | .non, e, _, h => by cases e <;> simp_all [pl, toPy, PyData.eqv]
  | .int i, e, _, h => by cases e <;> simp_all [pl, toPy, PyData.eqv]
  | .str i, e, _, h => by cases e <;> simp_all [pl, toPy, PyData.eqv]
  | .bl _, _, h, _ => by simp [pl] at h
  | .tup xs, e, h1, h => by
    cases e with
    | tup ys => simpa [toPy, PyData.eqv] using eqvs_pl xs ys (by simpa [pl] using h1) (by simpa [pl] using h)
    | _ => simp_all [pl, toPy, PyData.eqv]
  | .lst xs, e, h1, h => by
    cases e with
    | lst ys => simpa [toPy, PyData.eqv] using eqvs_pl xs ys (by simpa [pl] using h1) (by simpa [pl] using h)
    | _ => simp_all [pl, toPy, PyData.eqv]
  | .dK _ _, _, h, _ => by simp [pl] at h
  | .dT _ _, _, h, _ => by simp [pl] at h
  | .bag, _, h, _ => by simp [pl] at h
theorem eqvs_pl : ∀ d e : List D, pls d = true → pls e = true → (PyData.eqvAll (toPys d) (toPys e) = true ↔ d = e)
  | [], e, _, _ => by cases e <;> simp [toPys, PyData.eqvAll]
  | x :: r, e, h1, h2 => by
    cases e with
    | nil => simp [toPys, PyData.eqvAll]
    | cons y s =>
      simp only [pls, Bool.and_eq_true] at h1 h2
      simp only [toPys, PyData.eqvAll, Bool.and_eq_true, List.cons.injEq]
      rw [eqv_pl x y h1.1 h2.1, eqvs_pl r s h1.2 h2.2]
end
theorem eqVD_pl {d e : D} (h1 : pl d = true) (h2 : pl e = true) (h3 : (toPy e).depth ≤ 60) (b : Bool) (hb : b = true ↔ d = e) : eqVD d e = some (.bl b) := by
  unfold eqVD eqD
  rw [if_pos ⟨pl_plain d h1, pl_plain e h2, Nat.le_trans (Nat.min_le_right _ _) h3⟩]
  have : PyData.eqv (toPy d) (toPy e) = b := by
    rw [Bool.eq_iff_iff, eqv_pl d e h1 h2, hb]
  rw [this]
  rfl
theorem neVD_pl {d e : D} (h1 : pl d = true) (h2 : pl e = true) (h3 : (toPy e).depth ≤ 60) (b : Bool) (hb : b = true ↔ d = e) : neVD d e = some (.bl (!b)) := by
  unfold neVD eqD
  rw [if_pos ⟨pl_plain d h1, pl_plain e h2, Nat.le_trans (Nat.min_le_right _ _) h3⟩]
  have : PyData.eqv (toPy d) (toPy e) = b := by
    rw [Bool.eq_iff_iff, eqv_pl d e h1 h2, hb]
  rw [this]
  rfl
@[simp] theorem eqVD_ii (i j : Int) : eqVD (.int i) (.int j) = some (.bl (decide (i = j))) := eqVD_pl rfl rfl (Nat.zero_le _) _ (by simp)
@[simp] theorem neVD_ii (i j : Int) : neVD (.int i) (.int j) = some (.bl (!decide (i = j))) := neVD_pl rfl rfl (Nat.zero_le _) _ (by simp)
@[simp] theorem neVD_ss (i j : Str) : neVD (.str i) (.str j) = some (.bl (!decide (i = j))) := neVD_pl rfl rfl (Nat.zero_le _) _ (by simp)
@[simp] theorem neVD_ns (j : Str) : neVD .non (.str j) = some (.bl true) := neVD_pl rfl rfl (Nat.zero_le _) false (by simp)
@[simp] theorem neVD_sn (j : Str) : neVD (.str j) .non = some (.bl true) := neVD_pl rfl rfl (Nat.zero_le _) false (by simp)
@[simp] theorem neVD_nn : neVD .non .non = some (.bl false) := neVD_pl rfl rfl (Nat.zero_le _) true (by simp)
/-- xs == [], of plain items -/
theorem eqVD_nil {xs : List D} (h : PyData.plainAll (toPys xs) = true) : eqVD (.lst xs) (.lst []) = some (.bl (decide (xs = []))) := by
  unfold eqVD eqD
  rw [if_pos ⟨h, rfl, Nat.le_trans (Nat.min_le_right _ _) (by decide)⟩]
  cases xs <;> rfl
theorem neVD_nil {xs : List D} (h : PyData.plainAll (toPys xs) = true) : neVD (.lst xs) (.lst []) = some (.bl (!decide (xs = []))) := by
  unfold neVD eqD
  rw [if_pos ⟨h, rfl, Nat.le_trans (Nat.min_le_right _ _) (by decide)⟩]
  cases xs <;> rfl

/-! ### comprehensions -/
theorem lcGo_map {α : Type} {w : Slots} {bd : BX} {τ : TX} {ρ : EX} (enc : α → D) (p : α → Bool) (f : α → D) : ∀ xs : List α, (∀ x ∈ xs, ∃ l, bd (enc x) = some l ∧ τ (setsE w l) = M.ret (p x) ∧ (p x = true → ρ (setsE w l) = M.ret (f x))) →
    lcGo w bd τ ρ (xs.map enc) = M.ret ((xs.filter p).map f)
  | [], _ => rfl
  | x :: xs, h => by
    obtain ⟨l, h1, h2, h3⟩ := h x List.mem_cons_self
    have ih := lcGo_map enc p f xs fun y hy => h y (List.mem_cons_of_mem _ hy)
    rw [List.map_cons]
    unfold lcGo
    rw [h1]
    simp only [h2, noX_ret, bnd_ret, ih]
    cases hp : p x with
    | true => simp [hp, h3 hp]
    | false => simp [hp]
theorem lcGo_all {α : Type} {w : Slots} {bd : BX} {ρ : EX} (enc : α → D) (f : α → D) (xs : List α) (h : ∀ x ∈ xs, ∃ l, bd (enc x) = some l ∧ ρ (setsE w l) = M.ret (f x)) :
    lcGo w bd yesT ρ (xs.map enc) = M.ret (xs.map f) := by
  have q := lcGo_map (w := w) (bd := bd) (τ := yesT) (ρ := ρ) enc (fun _ => true) f xs fun x hx => by
    obtain ⟨l, h1, h2⟩ := h x hx
    exact ⟨l, h1, rfl, fun _ => h2⟩
  rw [q, List.filter_eq_self.mpr (by simp)]
theorem lc_run {α : Type} {ι : IX} {bd : BX} {τ : TX} {ρ : EX} {vs : List Nat} {env : Slots} (enc : α → D) (p : α → Bool) (f : α → D) (xs : List α) (hι : ι env = M.ret (xs.map enc)) (hl : xs.length ≤ line)
    (h : ∀ x ∈ xs, ∃ l, bd (enc x) = some l ∧ τ (setsE (wipeE env vs) l) = M.ret (p x) ∧ (p x = true → ρ (setsE (wipeE env vs) l) = M.ret (f x))) : lcE ι bd τ ρ vs env = M.ret (.lst ((xs.filter p).map f)) := by
  rw [lcE_eq, hι, bnd_ret, if_pos (by rw [List.length_map]; exact hl), lcGo_map enc p f xs h]
  rfl
theorem lc_runA {α : Type} {ι : IX} {bd : BX} {ρ : EX} {vs : List Nat} {env : Slots} (enc : α → D) (f : α → D) (xs : List α) (hι : ι env = M.ret (xs.map enc)) (hl : xs.length ≤ line)
    (h : ∀ x ∈ xs, ∃ l, bd (enc x) = some l ∧ ρ (setsE (wipeE env vs) l) = M.ret (f x)) : lcE ι bd yesT ρ vs env = M.ret (.lst (xs.map f)) := by
  rw [lcE_eq, hι, bnd_ret, if_pos (by rw [List.length_map]; exact hl), lcGo_all enc f xs h]
  rfl
/-! ### for -/
theorem for_run_on {O : List Nat} {bd : BX} {ρ : SX} (Pv : Nat → Slots → Bag → Prop) (es : List D) : ∀ (ds : List D) (k : Nat) (env : Slots) (g : Bag), Pv k env g →
    (∀ i d env g, ds[i]? = some d → Pv (k + i) env g → ∃ l, bd d = some l ∧ outO O l = true ∧ ∃ env' g', (ρ (setsE env l) g = .ok (.nx env') g' ∨ ρ (setsE env l) g = .ok (.ct env') g') ∧ Pv (k + i + 1) env' g') →
    ∃ env' g', forGo O bd ρ (ds ++ es) env g = forGo O bd ρ es env' g' ∧ Pv (k + ds.length) env' g'
  | [], k, env, g, h0, _ => ⟨env, g, rfl, h0⟩
  | d :: ds, k, env, g, h0, hs => by
    obtain ⟨l, h1, h2, env', g', h3, h4⟩ := hs 0 d env g rfl h0
    have ih := for_run_on Pv es ds (k + 1) env' g' h4 fun i d env g e p => by
      have := hs (i + 1) d env g e (by rw [show k + (i + 1) = k + 1 + i by omega]; exact p)
      rw [show k + 1 + i + 1 = k + (i + 1) + 1 by omega]
      exact this
    obtain ⟨e2, g2, h5, h6⟩ := ih
    refine ⟨e2, g2, ?_, by rw [List.length_cons, show k + (ds.length + 1) = k + 1 + ds.length by omega]; exact h6⟩
    rw [List.cons_append]
    rw [show forGo O bd ρ (d :: (ds ++ es)) = fun env => M.bnd (M.ofO (bd d)) fun l => if outO O l = true then M.bnd (ρ (setsE env l)) (goS (forGo O bd ρ (ds ++ es))) else M.bad from rfl]
    rw [h1]
    simp only [ofO_someM, bnd_ret, h2, if_true]
    rcases h3 with h3 | h3
    · rw [bnd_okM h3]; exact h5
    · rw [bnd_okM h3]; exact h5
theorem for_run {O : List Nat} {bd : BX} {ρ : SX} (Pv : Nat → Slots → Bag → Prop) (ds : List D) (env : Slots) (g : Bag) (h0 : Pv 0 env g)
    (hs : ∀ i d env g, ds[i]? = some d → Pv i env g → ∃ l, bd d = some l ∧ outO O l = true ∧ ∃ env' g', (ρ (setsE env l) g = .ok (.nx env') g' ∨ ρ (setsE env l) g = .ok (.ct env') g') ∧ Pv (i + 1) env' g') :
    ∃ env' g', forGo O bd ρ ds env g = .ok (.nx env') g' ∧ Pv ds.length env' g' := by
  obtain ⟨e, g', h1, h2⟩ := for_run_on Pv [] ds 0 env g h0 fun i d env g e p => by
    have := hs i d env g e (by rw [Nat.zero_add] at p; exact p)
    rw [Nat.zero_add]
    exact this
  rw [List.append_nil] at h1
  rw [Nat.zero_add] at h2
  exact ⟨e, g', h1, h2⟩
/-- a for that leaves before its end -/
theorem for_until {O : List Nat} {bd : BX} {ρ : SX} (W : Nat → Slots → Bag → Prop) (Rp : D → Bag → Prop) (h0 : ∀ env g, ¬ W 0 env g)
    (hs : ∀ d m env g, W (m + 1) env g → ∃ l, bd d = some l ∧ outO O l = true ∧ ((∃ r g', ρ (setsE env l) g = .ok (.rt r) g' ∧ Rp r g') ∨ ∃ env' g', ρ (setsE env l) g = .ok (.nx env') g' ∧ W m env' g')) :
    ∀ (ds : List D) (env : Slots) (g : Bag), W ds.length env g → ∃ r g', forGo O bd ρ ds env g = .ok (.rt r) g' ∧ Rp r g'
  | [], env, g, w => absurd w (h0 env g)
  | d :: ds, env, g, w => by
    obtain ⟨l, h1, h2, h3⟩ := hs d ds.length env g w
    rw [show forGo O bd ρ (d :: ds) = fun env => M.bnd (M.ofO (bd d)) fun l => if outO O l = true then M.bnd (ρ (setsE env l)) (goS (forGo O bd ρ ds)) else M.bad from rfl]
    rw [h1]
    simp only [ofO_someM, bnd_ret, h2, if_true]
    rcases h3 with ⟨r, g', h3, h4⟩ | ⟨env', g', h3, h4⟩
    · exact ⟨r, g', by rw [bnd_okM h3]; rfl, h4⟩
    · obtain ⟨r, g2, h5, h6⟩ := for_until W Rp h0 hs ds env' g' h4
      exact ⟨r, g2, by rw [bnd_okM h3]; exact h5, h6⟩
@[simp] theorem rngD_length (lo : Int) (n : Nat) : (rngD lo n).length = n := by
  unfold rngD
  rw [List.length_map, List.length_range]
theorem rngD_get (n i : Nat) : (rngD 0 n)[i]? = if i < n then some (D.int i) else none := by
  unfold rngD
  rw [List.getElem?_map]
  by_cases h : i < n
  · rw [if_pos h, List.getElem?_range h]
    show some (D.int (0 + (i : Int))) = _
    rw [Int.zero_add]
  · rw [if_neg h, List.getElem?_eq_none (by rw [List.length_range]; omega)]
    rfl
theorem rng1_of {a : EX} {env : Slots} {k : Int} (h : a env = M.ret (.int k)) (h0 : 0 ≤ k) (h1 : k ≤ 1000000) : rng1I (consA a nilA) env = M.ret (rngD 0 k.toNat) := by
  rw [rng1I_eq, consA_eq, h, bnd_ret, nilA_eq, bnd_ret, bnd_ret]
  simp only
  rw [if_pos (by omega)]
  rfl
theorem rng1_nat {a : EX} {env : Slots} {k : Nat} (h : a env = M.ret (.int k)) (h1 : k ≤ 1000000) : rng1I (consA a nilA) env = M.ret (rngD 0 k) := by
  rw [rng1_of h (by omega) (by omega), Int.toNat_natCast]
/-! ### while -/
theorem while_run {τ : TX} {ρ : SX} (W : Nat → Slots → Bag → Prop) (E : Slots → Bag → Prop)
    (h : ∀ m env g, W m env g → ∃ b g1, τ env g = .ok b g1 ∧ (b = true → ∃ env' g' m', (ρ env g1 = .ok (.nx env') g' ∨ ρ env g1 = .ok (.ct env') g') ∧ m' < m ∧ W m' env' g') ∧ (b = false → E env g1)) :
    ∀ m env g, W m env g → ∃ env' g', whileS τ ρ env g = .ok (.nx env') g' ∧ E env' g' := by
  have key : ∀ m env g, W m env g → ∃ n env' g', whileGo τ ρ n env g = .ok (.nx env') g' ∧ E env' g' := by
    intro m
    induction m using Nat.strongRecOn with
    | ind m ih =>
      intro env g w
      obtain ⟨b, g1, h1, ht, hf⟩ := h m env g w
      cases b with
      | false =>
        refine ⟨1, env, g1, ?_, hf rfl⟩
        unfold whileGo
        rw [bnd_okM h1]
        rfl
      | true =>
        obtain ⟨env', g', m', h2, hm, w'⟩ := ht rfl
        obtain ⟨n, e2, g2, h3, h4⟩ := ih m' hm env' g' w'
        refine ⟨n + 1, e2, g2, ?_, h4⟩
        unfold whileGo
        rw [bnd_okM h1]
        simp only [if_true]
        rcases h2 with h2 | h2
        · rw [bnd_okM h2]; exact h3
        · rw [bnd_okM h2]; exact h3
  intro m env g w
  obtain ⟨n, env', g', h1, h2⟩ := key m env g w
  exact ⟨env', g', by rw [whileS_of (n := n) (by rw [h1]; exact fun z => by cases z), h1], h2⟩
/-! ### slices, pairs -/
theorem cutD_tail (xs : List D) : cutD xs (some 1) none = xs.drop 1 := by
  unfold cutD HT.sIx
  cases xs with
  | nil => rfl
  | cons x r => simp
@[simp] theorem slD_tail (xs : List D) : slD (.tup xs) (some 1) none = some (.tup xs.tail) := by
  show some (D.tup (cutD xs (some 1) none)) = _
  rw [cutD_tail, List.drop_one]
theorem zipD_map {α : Type} (e f : α → D) : ∀ (xs ys : List α), zipD (xs.map e) (ys.map f) = (xs.zip ys).map fun p => .tup [e p.1, f p.2]
  | [], _ => by simp [zipD]
  | _ :: _, [] => by simp [zipD]
  | x :: xs, y :: ys => by simp [zipD, zipD_map e f xs ys]
theorem zipD_map2 {α β : Type} (e : α → D) (f : β → D) : ∀ (xs : List α) (ys : List β), zipD (xs.map e) (ys.map f) = (xs.zip ys).map fun p => .tup [e p.1, f p.2]
  | [], _ => by simp [zipD]
  | _ :: _, [] => by simp [zipD]
  | x :: xs, y :: ys => by simp [zipD, zipD_map2 e f xs ys]
end VC

/-! PV2: dicts of pairs, tests of members: plain. -/
namespace VC
open PySem PySem.Spec L2 RZ
open PyProof.Rows hiding St

theorem hasX_ints (ks : List Int) (i : Int) : hasX (ks.map (Sum.inl (β := Str))) (.inl i) = decide (i ∈ ks) := by
  unfold hasX
  rw [Bool.eq_iff_iff, List.any_eq_true, decide_eq_true_eq]
  constructor
  · rintro ⟨k, hk, e⟩
    obtain ⟨j, hj, rfl⟩ := List.mem_map.mp hk
    rw [decide_eq_true_eq] at e
    cases e
    exact hj
  · intro h
    exact ⟨.inl i, List.mem_map.mpr ⟨i, h, rfl⟩, by simp⟩
theorem putXs_len {κ : Type} [DecidableEq κ] (k : κ) (x : D) : ∀ (ks : List κ) (xs : List D), (putXs ks xs k x).length = xs.length
  | [], xs => by cases xs <;> rfl
  | _ :: _, [] => rfl
  | _ :: ks, _ :: xs => by simp [putXs, putXs_len k x ks xs]
theorem putXs_mem {κ : Type} [DecidableEq κ] {k : κ} {x y : D} : ∀ {ks : List κ} {xs : List D}, y ∈ putXs ks xs k x → y ∈ xs ∨ y = x
  | [], xs, h => by cases xs <;> exact .inl h
  | _ :: _, [], h => .inl h
  | k' :: ks, z :: xs, h => by
    unfold putXs at h
    rcases List.mem_cons.mp h with h | h
    · split at h
      · exact .inr h
      · exact .inl (by rw [h]; exact List.mem_cons_self)
    · rcases putXs_mem h with h | h
      · exact .inl (List.mem_cons_of_mem _ h)
      · exact .inr h
/-- a dict of pairs with whole keys -/
theorem merge_ints (P : D → Prop) : ∀ (ps : List (Int × D)) (ks : List Int) (xs : List D), ks.Nodup → ks.length = xs.length → (∀ x ∈ xs, P x) → (∀ p ∈ ps, P p.2) →
    ∃ (ks' : List Int) (xs' : List D), mergeD (ps.map fun p => (Sum.inl p.1, p.2)) (ks.map Sum.inl, xs) = (ks'.map Sum.inl, xs') ∧ ks'.Nodup ∧ ks'.length = xs'.length ∧ (∀ i, i ∈ ks' ↔ i ∈ ks ∨ ∃ p ∈ ps, p.1 = i) ∧ ks'.length ≤ ks.length + ps.length ∧ ∀ x ∈ xs', P x
  | [], ks, xs, nd, hl, hx, _ => ⟨ks, xs, rfl, nd, hl, fun i => by simp, Nat.le_refl _, hx⟩
  | p :: ps, ks, xs, nd, hl, hx, hp => by
    rw [List.map_cons]
    show ∃ (ks' : List Int) (xs' : List D), mergeD _ (putX _ _ _ _) = _ ∧ _
    unfold putX
    by_cases h : p.1 ∈ ks
    · rw [if_pos (by rw [hasX_ints]; simpa using h)]
      obtain ⟨ks', xs', h1, h2, h3, h4, h5, h6⟩ := merge_ints P ps ks (putXs (ks.map (Sum.inl (β := Str))) xs (Sum.inl p.1) p.2) nd (by rw [putXs_len]; exact hl) (fun y hy => by
        rcases putXs_mem hy with hy | rfl
        · exact hx y hy
        · exact hp p List.mem_cons_self) fun q hq => hp q (List.mem_cons_of_mem _ hq)
      refine ⟨ks', xs', h1, h2, h3, fun i => ?_, by rw [List.length_cons]; omega, h6⟩
      rw [h4]
      constructor
      · rintro (h | ⟨q, hq, e⟩)
        · exact .inl h
        · exact .inr ⟨q, List.mem_cons_of_mem _ hq, e⟩
      · rintro (h' | ⟨q, hq, e⟩)
        · exact .inl h'
        · rcases List.mem_cons.mp hq with rfl | hq
          · exact .inl (by rw [← e]; exact h)
          · exact .inr ⟨q, hq, e⟩
    · rw [if_neg (by rw [hasX_ints]; simpa using h)]
      obtain ⟨ks', xs', h1, h2, h3, h4, h5, h6⟩ := merge_ints P ps (ks ++ [p.1]) (xs ++ [p.2]) (by
        rw [List.nodup_append]
        exact ⟨nd, by simp, fun a ha b hb => by rw [List.mem_singleton.mp hb]; exact fun z => h (z ▸ ha)⟩) (by simp [hl]) (fun y hy => by
        rcases List.mem_append.mp hy with hy | hy
        · exact hx y hy
        · rw [List.mem_singleton.mp hy]; exact hp p List.mem_cons_self) fun q hq => hp q (List.mem_cons_of_mem _ hq)
      refine ⟨ks', xs', by rw [← h1, List.map_append]; rfl, h2, h3, fun i => ?_, by simp only [List.length_append, List.length_cons, List.length_nil] at h5 ⊢; omega, h6⟩
      rw [h4]
      constructor
      · rintro (h | ⟨q, hq, e⟩)
        · rcases List.mem_append.mp h with h | h
          · exact .inl h
          · exact .inr ⟨p, List.mem_cons_self, (List.mem_singleton.mp h).symm⟩
        · exact .inr ⟨q, List.mem_cons_of_mem _ hq, e⟩
      · rintro (h' | ⟨q, hq, e⟩)
        · exact .inl (List.mem_append_left _ h')
        · rcases List.mem_cons.mp hq with rfl | hq
          · exact .inl (List.mem_append_right _ (List.mem_singleton.mpr e.symm))
          · exact .inr ⟨q, hq, e⟩
theorem pairsD_ints : ∀ (ps : List (Int × D)), pairsD (ps.map fun p => .tup [.int p.1, p.2]) = some (ps.map fun p => (Sum.inl p.1, p.2))
  | [] => rfl
  | p :: r => by
    rw [List.map_cons]
    unfold pairsD
    rw [pairsD_ints r]
    rfl
theorem dictL_ints (P : D → Prop) (ps : List (Int × D)) (hp : ∀ p ∈ ps, P p.2) : ∃ (ks : List Int) (xs : List D), dictL [.lst (ps.map fun p => .tup [.int p.1, p.2])] = some (.dK (ks.map Sum.inl) xs) ∧ ks.Nodup ∧ ks.length = xs.length ∧ (∀ i, i ∈ ks ↔ ∃ p ∈ ps, p.1 = i) ∧ ks.length ≤ ps.length ∧ ∀ x ∈ xs, P x := by
  obtain ⟨ks, xs, h1, h2, h3, h4, h5, h6⟩ := merge_ints P ps [] [] List.nodup_nil rfl (fun _ h => nomatch h) hp
  refine ⟨ks, xs, ?_, h2, h3, fun i => by rw [h4]; simp, by simpa using h5, h6⟩
  show (pairsD _).map _ = _
  rw [pairsD_ints]
  show some (D.dK _ _) = _
  rw [show (([] : List Key), ([] : List D)) = (([] : List Int).map Sum.inl, ([] : List D)) from rfl, h1]
theorem keyInts_map : ∀ ks : List Int, keyInts (ks.map Sum.inl) = some ks
  | [] => rfl
  | k :: r => by
    rw [List.map_cons]
    unfold keyInts
    rw [keyInts_map r]
    rfl
theorem sortL_keys (ks : List Int) (xs : List D) (h : ks.length < 64) : sortL [.dK (ks.map Sum.inl) xs] = some (.lst ((sortI ks).map D.int)) := by
  show (keyInts _).bind _ = _
  rw [keyInts_map]
  show (if _ then _ else _) = _
  rw [if_pos h]
theorem plainAll_ints : ∀ ns : List Int, PyData.plainAll (toPys (ns.map D.int)) = true
  | [] => rfl
  | n :: r => by simpa [toPys, PyData.plainAll, toPy, PyData.plain] using plainAll_ints r
theorem any_ints (i : Int) : ∀ ns : List Int, ((toPys (ns.map D.int)).any fun y => PyData.eqv y (toPy (.int i))) = decide (i ∈ ns)
  | [] => by simp [toPys]
  | n :: r => by
    have ih := any_ints i r
    simp only [List.map_cons, toPys, List.any_cons]
    rw [ih, Bool.eq_iff_iff]
    simp only [toPy, PyData.eqv, Bool.or_eq_true, beq_iff_eq, decide_eq_true_eq, List.mem_cons]
    constructor
    · rintro (h | h)
      · exact .inl h.symm
      · exact .inr h
    · rintro (h | h)
      · exact .inl h.symm
      · exact .inr h
theorem notIn_lst (i : Int) (ns : List Int) : notInSD (.int i) (.lst (ns.map D.int)) = some (.bl (!decide (i ∈ ns))) := by
  show (if _ then _ else _) = _
  rw [if_pos ⟨rfl, Nat.zero_le _, plainAll_ints ns⟩, any_ints]
theorem notIn_tup (i : Int) (ns : List Int) : notInSD (.int i) (.tup (ns.map D.int)) = some (.bl (!decide (i ∈ ns))) := by
  show (if _ then _ else _) = _
  rw [if_pos ⟨rfl, Nat.zero_le _, plainAll_ints ns⟩, any_ints]
end VC

/-! PV3: steps with the bag at hand; the draw of the laws. -/
namespace VC
open PySem PySem.Spec L2 RZ
open PyProof.Rows hiding St

@[simp] theorem atI_2 {α : Type} (x y z : α) (xs : List α) : atI (x :: y :: z :: xs) 2 = some z := VC.atI_nat (x :: y :: z :: xs) 2
@[simp] theorem atI_3 {α : Type} (x y z u : α) (xs : List α) : atI (x :: y :: z :: u :: xs) 3 = some u := VC.atI_nat (x :: y :: z :: u :: xs) 3
@[simp] theorem raiseS0_eq (c : Nat) (env : Slots) : raiseS0 c env = fun g => .exn c .non g := rfl
@[simp] theorem bnd_exn {α β : Type} (c : Nat) (p : D) (f : α → M β) : M.bnd (fun g => .exn c p g) f = fun g => .exn c p g := rfl
@[simp] theorem bin2M_eq (q : D → D → M D) (a b : EX) (env : Slots) : bin2M q a b env = M.bnd (a env) fun x => M.bnd (b env) fun y => q x y := rfl
@[simp] theorem callM_eq (q : List D → M D) (b : AX) (env : Slots) : callM q b env = M.bnd (b env) q := rfl
@[simp] theorem wordE_eq (ρ : FX) (b : AX) (env : Slots) : wordE ρ b env = M.bnd (b env) fun ds => if ds.length = 2 then catchW (ρ ds) else M.bad := rfl
section
variable {env : Slots} {g g' g2 : Bag}
theorem appH_of {O : List Nat} {i : Nat} {a : EX} {xs : List D} {d : D} (h1 : lstAt env i = some xs) (h2 : a (hide O env) = M.ret d) (hl : xs.length < line) : appH O i a env = M.ret (.nx (env.set i (some (.lst (xs ++ [d]))))) := by
  rw [appH_eq, h1, ofO_someM, bnd_ret, h2, bnd_ret, if_pos hl]
theorem appH_at {O : List Nat} {i : Nat} {a : EX} {xs : List D} {d : D} (h1 : lstAt env i = some xs) (h2 : a (hide O env) g = .ok d g') (hl : xs.length < line) : appH O i a env g = .ok (.nx (env.set i (some (.lst (xs ++ [d]))))) g' := by
  rw [appH_eq, h1, ofO_someM, bnd_ret, bnd_okM h2, if_pos hl]
  rfl
theorem ifS_of {τ : TX} {a b : SX} {c : Bool} (h : τ env = M.ret c) : ifS τ a b env = if c = true then a env else b env := by
  rw [ifS_eq, h, bnd_ret]
theorem ifS_at {τ : TX} {a b : SX} {c : Bool} (h : τ env g = .ok c g') : ifS τ a b env g = if c = true then a env g' else b env g' := by
  rw [ifS_eq, bnd_okM h]
  cases c <;> rfl
theorem valT_of {a : EX} {b : Bool} (h : a env = M.ret (.bl b)) : valT a env = M.ret b := by
  rw [valT_eq, h, bnd_ret, asB_bl, ofO_someM]
theorem valT_at {a : EX} {b : Bool} (h : a env g = .ok (.bl b) g') : valT a env g = .ok b g' := by
  rw [valT_eq, bnd_okM h]
  rfl
theorem bin2_at {q : D → D → Option D} {a b : EX} {x y z : D} (h1 : a env g = .ok x g') (h2 : b env g' = .ok y g2) (h3 : q x y = some z) : bin2 q a b env g = .ok z g2 := by
  rw [bin2_eq, bnd_okM h1, bnd_okM h2, h3]
  rfl
theorem call1_at {q : List D → Option D} {a : EX} {x z : D} (h1 : a env g = .ok x g') (h3 : q [x] = some z) : callE q (consA a nilA) env g = .ok z g' := by
  rw [callE_eq, consA_eq]
  simp only [nilA_eq, bnd_ret, bnd_assoc]
  rw [bnd_okM h1, h3]
  rfl
theorem asgH_at {O : List Nat} {i : Nat} {a : EX} {d : D} (h : a (hide O env) g = .ok d g') : asgH O i a env g = .ok (.nx (env.set i (some d))) g' := by
  rw [asgH_eq, bnd_okM h]
  rfl
theorem retS_at {a : EX} {d : D} (h : a env g = .ok d g') : retS a env g = .ok (.rt d) g' := by
  rw [retS_eq, bnd_okM h]
  rfl
theorem tup2_of {a b : EX} {x y : D} (h1 : a env = M.ret x) (h2 : b env = M.ret y) : tupE (consA a (consA b nilA)) env = M.ret (.tup [x, y]) := by
  rw [tupE_eq, consA_eq, h1, bnd_ret, consA_eq, h2]
  rfl
theorem tup3_of {a b c : EX} {x y z : D} (h1 : a env = M.ret x) (h2 : b env = M.ret y) (h3 : c env = M.ret z) : tupE (consA a (consA b (consA c nilA))) env = M.ret (.tup [x, y, z]) := by
  rw [tupE_eq, consA_eq, h1, bnd_ret, consA_eq, h2, bnd_ret, consA_eq, h3]
  rfl
theorem tup1_of {a : EX} {x : D} (h1 : a env = M.ret x) : tupE (consA a nilA) env = M.ret (.tup [x]) := by
  rw [tupE_eq, consA_eq, h1]
  rfl
theorem args1 {a : EX} {x : D} (h1 : a env = M.ret x) : consA a nilA env = M.ret [x] := by
  rw [consA_eq, h1]
  rfl
theorem args2 {a b : EX} {x y : D} (h1 : a env = M.ret x) (h2 : b env = M.ret y) : consA a (consA b nilA) env = M.ret [x, y] := by
  rw [consA_eq, h1, bnd_ret, args1 h2]
  rfl
theorem args1_at {a : EX} {x : D} (h1 : a env g = .ok x g') : consA a nilA env g = .ok [x] g' := by
  rw [consA_eq, bnd_okM h1]
  rfl
theorem consA_at {a : EX} {b : AX} {x : D} {xs : List D} (h1 : a env g = .ok x g') (h2 : b env g' = .ok xs g2) : consA a b env g = .ok (x :: xs) g2 := by
  rw [consA_eq, bnd_okM h1, bnd_okM h2]
  rfl
theorem tupE_at {b : AX} {xs : List D} (h : b env g = .ok xs g') (hl : xs.length ≤ 1000) : tupE b env g = .ok (.tup xs) g' := by
  rw [tupE_eq, bnd_okM h, if_pos hl]
  rfl
theorem lstE_at {b : AX} {xs : List D} (h : b env g = .ok xs g') (hl : xs.length ≤ 1000) : lstE b env g = .ok (.lst xs) g' := by
  rw [lstE_eq, bnd_okM h, if_pos hl]
  rfl
theorem fnE_at {ρ : FX} {b : AX} {n : Nat} {ds : List D} {d : D} (h1 : b env = M.ret ds) (hl : ds.length = n) (h2 : ρ ds g = .ok d g') : fnE ρ b n env g = .ok d g' := by
  rw [fnE_eq, h1, bnd_ret, if_pos hl, noX_okM h2]
theorem fnE_of {ρ : FX} {b : AX} {n : Nat} {ds : List D} {d : D} (h1 : b env = M.ret ds) (hl : ds.length = n) (h2 : ρ ds = M.ret d) : fnE ρ b n env = M.ret d :=
  funext fun g => fnE_at h1 hl (by rw [h2]; rfl)
theorem lc_run_at {α : Type} {ι : IX} {bd : BX} {τ : TX} {ρ : EX} {vs : List Nat} (enc : α → D) (p : α → Bool) (f : α → D) (xs : List α) (hι : ι env g = .ok (xs.map enc) g') (hl : xs.length ≤ line)
    (h : ∀ x ∈ xs, ∃ l, bd (enc x) = some l ∧ τ (setsE (wipeE env vs) l) = M.ret (p x) ∧ (p x = true → ρ (setsE (wipeE env vs) l) = M.ret (f x))) : lcE ι bd τ ρ vs env g = .ok (.lst ((xs.filter p).map f)) g' := by
  rw [lcE_eq, bnd_okM hι, if_pos (by rw [List.length_map]; exact hl), lcGo_map enc p f xs h]
  rfl
theorem rng1_at {a : EX} {k : Nat} (h : a env g = .ok (.int k) g') (h1 : k ≤ 1000000) : rng1I (consA a nilA) env g = .ok (rngD 0 k) g' := by
  rw [rng1I_eq, bnd_okM (args1_at h)]
  simp only
  rw [if_pos (by omega)]
  rfl
end
theorem seqI_at {a : EX} {env : Slots} {g g' : Bag} {d : D} {xs : List D} (h : a env g = .ok d g') (hi : itemsD d = some xs) : seqI a env g = .ok xs g' := by
  rw [seqI_eq, bnd_okM h, hi]
  rfl
theorem seqI_of {a : EX} {env : Slots} {d : D} {xs : List D} (h : a env = M.ret d) (hi : itemsD d = some xs) : seqI a env = M.ret xs := by
  rw [seqI_eq, h, bnd_ret, hi]
  rfl
theorem forGo_nil {O : List Nat} {bd : BX} {ρ : SX} {env : Slots} : forGo O bd ρ [] env = M.ret (.nx env) := rfl
theorem forGo_cons {O : List Nat} {bd : BX} {ρ : SX} {env : Slots} {d : D} {ds : List D} {l : List (Nat × D)} (hb : bd d = some l) (ho : outO O l = true) : forGo O bd ρ (d :: ds) env = M.bnd (ρ (setsE env l)) (goS (forGo O bd ρ ds)) := by
  show M.bnd (M.ofO (bd d)) (fun l => if outO O l = true then M.bnd (ρ (setsE env l)) (goS (forGo O bd ρ ds)) else M.bad) = _
  rw [hb, ofO_someM, bnd_ret, if_pos ho]
theorem forH_at {O : List Nat} {ι : IX} {bd : BX} {ρ : SX} {env : Slots} {g g' : Bag} {ds : List D} (h : ι (hide O env) g = .ok ds g') : forH O ι bd ρ env g = forGo O bd ρ ds env g' := by
  rw [forH_eq, bnd_okM h]
theorem forH_of {O : List Nat} {ι : IX} {bd : BX} {ρ : SX} {env : Slots} {ds : List D} (h : ι (hide O env) = M.ret ds) : forH O ι bd ρ env = forGo O bd ρ ds env := by
  rw [forH_eq, h, bnd_ret]
theorem notT_of {τ : TX} {env : Slots} {b : Bool} (h : τ env = M.ret b) : notT τ env = M.ret (!b) := by
  rw [notT_eq, h, bnd_ret]
theorem notT_at {τ : TX} {env : Slots} {g g' : Bag} {b : Bool} (h : τ env g = .ok b g') : notT τ env g = .ok (!b) g' := by
  rw [notT_eq, bnd_okM h]
  rfl
theorem orT_at {τ υ : TX} {env : Slots} {g g' g2 : Bag} {b c : Bool} (h : τ env g = .ok b g') (h2 : b = false → υ env g' = .ok c g2) (h3 : b = true → c = true ∧ g2 = g') : orT τ υ env g = .ok c g2 := by
  rw [orT_eq, bnd_okM h]
  cases b with
  | true => obtain ⟨rfl, rfl⟩ := h3 rfl; rfl
  | false => exact h2 rfl
theorem orT_f {τ υ : TX} {env : Slots} {g g' : Bag} (h : τ env g = .ok false g') : orT τ υ env g = υ env g' := by
  rw [orT_eq, bnd_okM h]
  rfl
theorem fnXE_of {ρ : FX} {b : AX} {n : Nat} {env : Slots} {ds : List D} (h1 : b env = M.ret ds) (hl : ds.length = n) : fnXE ρ b n env = ρ ds := by
  rw [fnXE_eq, h1, bnd_ret, if_pos hl]
theorem dropS_of {a : EX} {env : Slots} {d : D} (h : a env = M.ret d) : dropS a env = M.ret (.nx env) := by
  rw [dropS_eq, h, bnd_ret]
/-- what is drawn into a list -/
theorem lcGo_draw {bd : BX} {ρ : EX} {w : Slots} (Q : D → Prop) : ∀ (ds : List D) (g : Bag), (∀ d ∈ ds, ∃ l, bd d = some l ∧ ∀ g, ∃ v g', ρ (setsE w l) g = .ok v g' ∧ Q v) →
    ∃ vs g', lcGo w bd yesT ρ ds g = .ok vs g' ∧ vs.length = ds.length ∧ ∀ v ∈ vs, Q v
  | [], g, _ => ⟨[], g, rfl, rfl, fun _ h => nomatch h⟩
  | d :: ds, g, h => by
    obtain ⟨l, hb, hr⟩ := h d List.mem_cons_self
    obtain ⟨v, g1, h1, hq⟩ := hr g
    obtain ⟨vs, g2, h2, hl, hQ⟩ := lcGo_draw Q ds g1 fun d' hd => h d' (List.mem_cons_of_mem _ hd)
    refine ⟨v :: vs, g2, ?_, by rw [List.length_cons, List.length_cons, hl], fun u hu => ?_⟩
    · unfold lcGo
      rw [hb]
      simp only [yesT_eq, noX_ret, bnd_ret, if_true]
      rw [bnd_okM (noX_okM h1), bnd_okM h2]
      rfl
    · rcases List.mem_cons.mp hu with rfl | hu
      · exact hq
      · exact hQ u hu
theorem lc_draw {ι : IX} {bd : BX} {ρ : EX} {vs : List Nat} {env : Slots} {g g' : Bag} (Q : D → Prop) (ds : List D) (hι : ι env g = .ok ds g') (hl : ds.length ≤ line) (h : ∀ d ∈ ds, ∃ l, bd d = some l ∧ ∀ g, ∃ v g', ρ (setsE (wipeE env vs) l) g = .ok v g' ∧ Q v) :
    ∃ xs g2, lcE ι bd yesT ρ vs env g = .ok (.lst xs) g2 ∧ xs.length = ds.length ∧ ∀ v ∈ xs, Q v := by
  obtain ⟨xs, g2, h1, h2, h3⟩ := lcGo_draw Q ds g' h
  refine ⟨xs, g2, ?_, h2, h3⟩
  rw [lcE_eq, bnd_okM hι, if_pos hl, bnd_okM h1]
  rfl
/-! ### the draw -/
theorem mulD_const (i j : Int) (h : -4294967296 ≤ j ∧ j ≤ 4294967296) : mulD (.int i) (.int j) = some (.int (i * j)) := by
  show (if _ then _ else _) = _
  rw [if_pos (.inr (by omega))]
theorem modD_pos (i j : Int) (h : 0 < j) : modD (.int i) (.int j) = some (.int (i % j)) := by
  show (if _ then _ else _) = _
  rw [if_pos h]
theorem divD_pos (i j : Int) (h : 0 < j ∧ j < 1073741824) : divD (.int i) (.int j) = some (.int (i / j)) := by
  show (if _ then _ else _) = _
  rw [if_pos h]
theorem bagE_at {i : Int} {a : EX} {env : Slots} {g : Bag} {z : Int} (h : a env = M.ret .bag) (hi : bagIx g i = some z) : bagE i a env g = .ok (.int z) g := by
  unfold bagE
  rw [h, bnd_ret]
  simp only [hi]
theorem bagS_at {i0 : Nat} {i : Int} {a : EX} {env : Slots} {g g1 g2 : Bag} {v : Int} (h : a env g = .ok (.int v) g1) (hb : isBag env i0 = some ()) (hs : bagSet g1 i v = some g2) : bagS i0 i a env g = .ok (.nx env) g2 := by
  unfold bagS
  rw [bnd_okM h, hb, ofO_someM, bnd_ret]
  show (match bagSet g1 i v with
    | some g' => Out.ok (Fl.nx env) g'
    | none => Out.bad) = _
  rw [hs]
theorem mul2D_ii (i j : Int) : mul2D (.int i) (.int j) = mulD (.int i) (.int j) := rfl
theorem mul2D_const (i j : Int) (h : -4294967296 ≤ j ∧ j ≤ 4294967296) : mul2D (.int i) (.int j) = some (.int (i * j)) := mulD_const i j h
noncomputable def drawS : SX := (seqS (ifS (valT (bin2 eqVD (bagE 0 (varE 0)) (cE (.int 0)))) (seqS (asgH [] 2 (bin2 modD (callE intL (consA (bin2 addD (bin2 addD (bin2 mul2D (bagE 1 (varE 0)) (cE (.int 48271))) (bin2 mul2D (bagE 2 (varE 0)) (cE (.int 69621)))) (cE (.int 11))) nilA)) (cE (.int 2147483647)))) (seqS (bagS 0 0 (bin2 addD (bin2 mul2D (varE 2) (cE (.int 2147483629))) (bin2 modD (callE intL (consA (bin2 addD (bin2 mul2D (varE 2) (varE 2)) (bin2 mul2D (bagE 2 (varE 0)) (cE (.int 16807)))) nilA)) (cE (.int 2147483629))))) (bagS 0 1 (varE 2)))) nxS) (seqS (asgH [] 3 (bagE 0 (varE 0))) (seqS (bagS 0 0 (bin2 divD (varE 3) (varE 1))) (retS (bin2 modD (callE intL (consA (varE 3) nilA)) (varE 1))))))
noncomputable def drawF : FX := fnD ["bag", "many", "seed", "rest"] drawS
theorem draw_rest {many : Int} (h : 0 < many ∧ many < 1073741824) (x2 : Option D) (g : Bag) :
    seqS (asgH [] 3 (bagE 0 (varE 0))) (seqS (bagS 0 0 (bin2 divD (varE 3) (varE 1))) (retS (bin2 modD (callE intL (consA (varE 3) nilA)) (varE 1)))) [some .bag, some (.int many), x2, none] g = .ok (.rt (.int (g.b.1 % many))) ⟨(g.b.1 / many, g.b.2), g.cs⟩ := by
  have h1 : asgH [] 3 (bagE 0 (varE 0)) [some .bag, some (.int many), x2, none] g = .ok (.nx [some .bag, some (.int many), x2, some (.int g.b.1)]) g := asgH_at (bagE_at (z := g.b.1) rfl rfl)
  rw [seqS_ok h1]
  have h2 : bagS 0 0 (bin2 divD (varE 3) (varE 1)) [some .bag, some (.int many), x2, some (.int g.b.1)] g = .ok (.nx [some .bag, some (.int many), x2, some (.int g.b.1)]) ⟨(g.b.1 / many, g.b.2), g.cs⟩ := bagS_at (by rw [bin2_of (x := .int g.b.1) (y := .int many) rfl rfl (divD_pos _ _ h)]; rfl) rfl rfl
  rw [seqS_ok h2]
  refine retS_at ?_
  rw [bin2_of (x := .int g.b.1) (y := .int many) (call1_of (x := .int g.b.1) rfl rfl) rfl (modD_pos _ _ h.1)]
  rfl
theorem draw_at {many : Int} (h : 0 < many ∧ many < 1073741824) (g : Bag) : ∃ v g', drawF [.bag, .int many] g = .ok (.int v) g' ∧ 0 ≤ v ∧ v < many := by
  have key : ∃ x2 g1, ifS (valT (bin2 eqVD (bagE 0 (varE 0)) (cE (.int 0)))) (seqS (asgH [] 2 (bin2 modD (callE intL (consA (bin2 addD (bin2 addD (bin2 mul2D (bagE 1 (varE 0)) (cE (.int 48271))) (bin2 mul2D (bagE 2 (varE 0)) (cE (.int 69621)))) (cE (.int 11))) nilA)) (cE (.int 2147483647)))) (seqS (bagS 0 0 (bin2 addD (bin2 mul2D (varE 2) (cE (.int 2147483629))) (bin2 modD (callE intL (consA (bin2 addD (bin2 mul2D (varE 2) (varE 2)) (bin2 mul2D (bagE 2 (varE 0)) (cE (.int 16807)))) nilA)) (cE (.int 2147483629))))) (bagS 0 1 (varE 2)))) nxS [some .bag, some (.int many), none, none] g = .ok (.nx [some .bag, some (.int many), x2, none]) g1 := by
    rw [ifS_at (valT_at (bin2_at (bagE_at (z := g.b.1) rfl rfl) rfl (eqVD_ii _ _)))]
    by_cases h0 : g.b.1 = 0
    · rw [if_pos (by simpa using h0)]
      have hs0 := Int.emod_nonneg (g.b.2.1 * 48271 + g.b.2.2 * 69621 + 11) (show (2147483647 : Int) ≠ 0 by decide)
      have hs1 := Int.emod_lt_of_pos (g.b.2.1 * 48271 + g.b.2.2 * 69621 + 11) (show (0 : Int) < 2147483647 by decide)
      have h1 : asgH [] 2 (bin2 modD (callE intL (consA (bin2 addD (bin2 addD (bin2 mul2D (bagE 1 (varE 0)) (cE (.int 48271))) (bin2 mul2D (bagE 2 (varE 0)) (cE (.int 69621)))) (cE (.int 11))) nilA)) (cE (.int 2147483647))) [some .bag, some (.int many), none, none] g = .ok (.nx [some .bag, some (.int many), some (.int ((g.b.2.1 * 48271 + g.b.2.2 * 69621 + 11) % 2147483647)), none]) g := by
        refine asgH_at (bin2_at (call1_at (bin2_at (bin2_at (bin2_at (bagE_at (z := g.b.2.1) rfl rfl) rfl (mul2D_const _ _ (by omega))) (bin2_at (bagE_at (z := g.b.2.2) rfl rfl) rfl (mul2D_const _ _ (by omega))) (addD_ii _ _)) rfl (addD_ii _ _)) (intL_int _)) rfl (modD_pos _ _ (by decide)))
      rw [seqS_ok h1]
      generalize (g.b.2.1 * 48271 + g.b.2.2 * 69621 + 11) % 2147483647 = s at hs0 hs1
      have h2 : bagS 0 0 (bin2 addD (bin2 mul2D (varE 2) (cE (.int 2147483629))) (bin2 modD (callE intL (consA (bin2 addD (bin2 mul2D (varE 2) (varE 2)) (bin2 mul2D (bagE 2 (varE 0)) (cE (.int 16807)))) nilA)) (cE (.int 2147483629)))) [some .bag, some (.int many), some (.int s), none] g = .ok (.nx [some .bag, some (.int many), some (.int s), none]) ⟨(s * 2147483629 + (s * s + g.b.2.2 * 16807) % 2147483629, g.b.2), g.cs⟩ := by
        refine bagS_at (bin2_at (bin2_at (x := .int s) rfl rfl (mul2D_const _ _ (by omega))) (bin2_at (call1_at (bin2_at (bin2_at (x := .int s) (y := .int s) rfl rfl (mul2D_const _ _ (by omega))) (bin2_at (bagE_at (z := g.b.2.2) rfl rfl) rfl (mul2D_const _ _ (by omega))) (addD_ii _ _)) (intL_int _)) rfl (modD_pos _ _ (by decide))) (addD_ii _ _)) rfl rfl
      rw [seqS_ok h2]
      exact ⟨_, _, bagS_at (v := s) rfl rfl rfl⟩
    · rw [if_neg (by simpa using h0)]
      exact ⟨none, g, rfl⟩
  obtain ⟨x2, g1, hk⟩ := key
  refine ⟨g1.b.1 % many, ⟨(g1.b.1 / many, g1.b.2), g1.cs⟩, fnD_ok (env := [some .bag, some (.int many), none, none]) rfl ?_, Int.emod_nonneg _ (by omega), Int.emod_lt_of_pos _ h.1⟩
  unfold drawS
  rw [seqS_ok hk]
  exact draw_rest h x2 g1
end VC

/-! PV4: owned dicts that grow; pigeons. -/
namespace VC
open PySem PySem.Spec L2 RZ
open PyProof.Rows hiding St

section
variable {κ : Type} [DecidableEq κ] {α : Type}
theorem hasX_iff (ks : List κ) (k : κ) : hasX ks k = true ↔ k ∈ ks := by
  unfold hasX
  rw [List.any_eq_true]
  constructor
  · rintro ⟨j, hj, e⟩
    rw [decide_eq_true_eq] at e
    exact e ▸ hj
  · exact fun h => ⟨k, h, by simp⟩
theorem valX_map (kf : α → κ) (vf : α → D) (k : κ) : ∀ as : List α, valX (as.map kf) (as.map vf) k = (as.find? fun a => decide (kf a = k)).map vf
  | [] => rfl
  | a :: as => by
    rw [List.map_cons, List.map_cons]
    unfold valX
    rw [valX_map kf vf k as, List.find?_cons]
    by_cases h : kf a = k
    · rw [if_pos h, decide_eq_true h]; rfl
    · rw [if_neg h, decide_eq_false h]
theorem valX_isSomeM (kf : α → κ) (vf : α → D) (k : κ) (as : List α) : (valX (as.map kf) (as.map vf) k).isSome = hasX (as.map kf) k := by
  rw [valX_map, Option.isSome_map, Bool.eq_iff_iff, List.find?_isSome, hasX_iff, List.mem_map]
  constructor
  · rintro ⟨a, h, e⟩
    exact ⟨a, h, by simpa using e⟩
  · rintro ⟨a, h, e⟩
    exact ⟨a, h, by simpa using e⟩
theorem putX_new (kf : α → κ) (vf : α → D) (as : List α) (a : α) (h : kf a ∉ as.map kf) : putX (as.map kf) (as.map vf) (kf a) (vf a) = ((as ++ [a]).map kf, (as ++ [a]).map vf) := by
  unfold putX
  rw [if_neg (by rw [hasX_iff]; exact h), List.map_append, List.map_append]
  rfl
end
section
variable {α : Type}
theorem notIn_dK (kf : α → Key) (vf : α → D) (as : List α) (d : D) (k : Key) (hk : keyD d = some k) : notInVD d (.dK (as.map kf) (as.map vf)) = some (.bl (!hasX (as.map kf) k)) := by
  show Option.map _ ((keyD d).map _) = _
  rw [hk, ← valX_isSomeM kf vf k as]
  rfl
theorem notIn_dT (kf : α → List Key) (vf : α → D) (as : List α) (d : D) (k : List Key) (hk : keyT d = some k) : notInVD d (.dT (as.map kf) (as.map vf)) = some (.bl (!hasX (as.map kf) k)) := by
  show Option.map _ ((keyT d).map _) = _
  rw [hk, ← valX_isSomeM kf vf k as]
  rfl
theorem put_dK (kf : α → Key) (vf : α → D) (as : List α) (a : α) (d : D) (hk : keyD d = some (kf a)) (h : kf a ∉ as.map kf) (hl : as.length < line) : putO (.dK (as.map kf) (as.map vf)) d (vf a) = some (.dK ((as ++ [a]).map kf) ((as ++ [a]).map vf)) := by
  show (keyD d).bind _ = _
  rw [hk]
  show (if _ then _ else _) = _
  rw [if_pos (by rw [List.length_map]; exact hl), putX_new kf vf as a h]
theorem put_dT (kf : α → List Key) (vf : α → D) (as : List α) (a : α) (d : D) (hk : keyT d = some (kf a)) (h : kf a ∉ as.map kf) (hl : as.length < line) : putO (.dT (as.map kf) (as.map vf)) d (vf a) = some (.dT ((as ++ [a]).map kf) ((as ++ [a]).map vf)) := by
  show (keyT d).bind _ = _
  rw [hk]
  show (if _ then _ else _) = _
  rw [if_pos (by rw [List.length_map]; exact hl), putX_new kf vf as a h]
theorem get_dK (kf : α → Key) (vf : α → D) (as : List α) (d : D) (k : Key) (hk : keyD d = some k) : getD (.dK (as.map kf) (as.map vf)) d = (as.find? fun a => decide (kf a = k)).map vf := by
  show (keyD d).bind _ = _
  rw [hk, ← valX_map kf vf k as]
  rfl
theorem get_dT (kf : α → List Key) (vf : α → D) (as : List α) (d : D) (k : List Key) (hk : keyT d = some k) : getD (.dT (as.map kf) (as.map vf)) d = (as.find? fun a => decide (kf a = k)).map vf := by
  show (keyT d).bind _ = _
  rw [hk, ← valX_map kf vf k as]
  rfl
end
theorem dputF_of {i : Nat} {κ ρ : EX} {env : Slots} {x d k d' : D} (h1 : ρ env = M.ret x) (h2 : dictAt env i = some d) (h3 : κ env = M.ret k) (h4 : putO d k x = some d') (h5 : flat x = true) : dputF i κ ρ env = M.ret (.nx (env.set i (some d'))) := by
  unfold dputF
  rw [h1, bnd_ret, h2, ofO_someM, bnd_ret, h3, bnd_ret, h4, ofO_someM, bnd_ret, if_pos h5]
/-! pigeons -/
theorem pigeon : ∀ (n : Nat) (qs : List Nat), qs.Nodup → (∀ q ∈ qs, q < n) → qs.length ≤ n
  | 0, [], _, _ => Nat.le_refl _
  | 0, q :: _, _, h => absurd (h q List.mem_cons_self) (Nat.not_lt_zero _)
  | n + 1, qs, nd, h => by
    by_cases hn : n ∈ qs
    · have h1 := pigeon n (qs.erase n) (nd.erase n) fun q hq => by
        have h2 := (List.Nodup.mem_erase_iff nd).mp hq
        have := h q h2.2
        have := h2.1
        omega
      rw [List.length_erase_of_mem hn] at h1
      omega
    · have := pigeon n qs nd fun q hq => by
        have := h q hq
        have : q ≠ n := fun e => hn (e ▸ hq)
        omega
      omega
theorem nodup_map {α β : Type} {f : α → β} (hf : ∀ x y, f x = f y → x = y) : ∀ {l : List α}, l.Nodup → (l.map f).Nodup
  | [], _ => List.nodup_nil
  | a :: l, h => by
    obtain ⟨h1, h2⟩ := List.nodup_cons.mp h
    rw [List.map_cons, List.nodup_cons]
    refine ⟨fun z => ?_, nodup_map hf h2⟩
    obtain ⟨b, hb, e⟩ := List.mem_map.mp z
    exact h1 (hf _ _ e ▸ hb)
theorem nodup_snoc {α : Type} {l : List α} {a : α} (h : l.Nodup) (ha : a ∉ l) : (l ++ [a]).Nodup := by
  rw [List.nodup_append]
  exact ⟨h, by simp, fun x hx y hy => by rw [List.mem_singleton.mp hy]; exact fun e => ha (e ▸ hx)⟩
end VC

/-! PV5: members, index, cuts of plain lists. -/
namespace VC
open PySem PySem.Spec L2 RZ
open PyProof.Rows hiding St

theorem any_pl {k : D} (hk : pl k = true) : ∀ {as : List D}, pls as = true → (((toPys as).any fun y => PyData.eqv y (toPy k)) = true ↔ k ∈ as)
  | [], _ => by simp [toPys]
  | a :: as, h => by
    simp only [pls, Bool.and_eq_true] at h
    simp only [toPys, List.any_cons, Bool.or_eq_true, List.mem_cons]
    rw [eqv_pl a k h.1 hk, any_pl hk h.2]
    constructor
    · rintro (h | h)
      · exact .inl h.symm
      · exact .inr h
    · rintro (h | h)
      · exact .inl h.symm
      · exact .inr h
theorem inS_lst {k : D} {as : List D} (hk : pl k = true) (hd : (toPy k).depth ≤ 60) (ha : pls as = true) (b : Bool) (hb : b = true ↔ k ∈ as) : inSD k (.lst as) = some (.bl b) := by
  show (if _ then _ else _) = _
  rw [if_pos ⟨pl_plain k hk, hd, pls_plain as ha⟩]
  congr 2
  rw [Bool.eq_iff_iff, any_pl hk ha, hb]
theorem notInS_lst {k : D} {as : List D} (hk : pl k = true) (hd : (toPy k).depth ≤ 60) (ha : pls as = true) (b : Bool) (hb : b = true ↔ k ∈ as) : notInSD k (.lst as) = some (.bl (!b)) := by
  show (if _ then _ else _) = _
  rw [if_pos ⟨pl_plain k hk, hd, pls_plain as ha⟩]
  congr 3
  rw [Bool.eq_iff_iff, any_pl hk ha, hb]
/-- data without dicts, of few storeys -/
theorem pls_mem {as : List D} (h : pls as = true) {a : D} (ha : a ∈ as) : pl a = true := by
  induction as with
  | nil => cases ha
  | cons x r ih =>
    simp only [pls, Bool.and_eq_true] at h
    rcases List.mem_cons.mp ha with rfl | ha
    · exact h.1
    · exact ih h.2 ha
theorem pls_of {as : List D} (h : ∀ a ∈ as, pl a = true) : pls as = true := by
  induction as with
  | nil => rfl
  | cons x r ih =>
    simp only [pls, Bool.and_eq_true]
    exact ⟨h x List.mem_cons_self, ih fun a ha => h a (List.mem_cons_of_mem _ ha)⟩
theorem toPys_map : ∀ as : List D, toPys as = as.map toPy
  | [] => rfl
  | a :: as => by simp [toPys, toPys_map as]
theorem idx_lst {k : D} {as : List D} {j : Nat} (hk : pl k = true) (ha : pls as = true) (s1 : SeqAt.shaped (.list (toPys as)) = true) (s2 : SeqAt.shaped (toPy k) = true) (nd : as.Nodup) (hj : as[j]? = some k) : idxO as k = some (.int (j : Int)) := by
  have hf : (toPys as).findIdx? (fun y => PyData.eqv y (toPy k)) = some j := by
    obtain ⟨hl, e⟩ := List.getElem?_eq_some_iff.mp hj
    rw [toPys_map, List.findIdx?_eq_some_iff_getElem]
    refine ⟨by simpa using hl, ?_, fun m hm => ?_⟩
    · rw [List.getElem_map, e, eqv_pl k k hk hk]
    · have hml : m < as.length := by omega
      rw [List.getElem_map, eqv_pl as[m] k (pls_mem ha (List.getElem_mem hml)) hk]
      intro z
      exact List.pairwise_iff_getElem.mp nd m j hml hl hm (z.trans e.symm)
  unfold idxO
  rw [if_pos ⟨⟨pls_plain as ha, pl_plain k hk⟩, s1, s2⟩, hf]
  rfl
theorem cut_to (xs : List D) (j : Nat) (h : j ≤ xs.length) : VC.cutD xs none (some (j : Int)) = xs.take j := by
  unfold VC.cutD
  rw [HT.sIx_none, HT.sIx_nat, List.drop_zero, Nat.sub_zero, Nat.min_eq_left h]
theorem cut_from (xs : List D) (j : Nat) (h : j ≤ xs.length) : VC.cutD xs (some (j : Int)) none = xs.drop j := by
  unfold VC.cutD
  rw [HT.sIx_none, HT.sIx_nat, Nat.min_eq_left h]
  exact List.take_of_length_le (by rw [List.length_drop]; omega)
end VC

/-! PV6: a while that leaves; cells' steps; numbers of classes. -/
namespace VC
open PySem PySem.Spec L2 RZ
open PyProof.Rows hiding St

theorem while_ret {τ : TX} {ρ : SX} (W : Nat → Slots → Bag → Prop) (Rp : D → Bag → Prop)
    (h : ∀ m env g, W m env g → ∃ g1, τ env g = .ok true g1 ∧ ((∃ r g', ρ env g1 = .ok (.rt r) g' ∧ Rp r g') ∨ ∃ env' g' m', ρ env g1 = .ok (.nx env') g' ∧ m' < m ∧ W m' env' g')) :
    ∀ m env g, W m env g → ∃ r g', whileS τ ρ env g = .ok (.rt r) g' ∧ Rp r g' := by
  have key : ∀ m env g, W m env g → ∃ n r g', whileGo τ ρ n env g = .ok (.rt r) g' ∧ Rp r g' := by
    intro m
    induction m using Nat.strongRecOn with
    | ind m ih =>
      intro env g w
      obtain ⟨g1, h1, h2⟩ := h m env g w
      rcases h2 with ⟨r, g', h2, h3⟩ | ⟨env', g', m', h2, hm, w'⟩
      · refine ⟨1, r, g', ?_, h3⟩
        unfold whileGo
        rw [bnd_okM h1]
        simp only [if_true]
        rw [bnd_okM h2]
        rfl
      · obtain ⟨n, r, g2, h3, h4⟩ := ih m' hm env' g' w'
        refine ⟨n + 1, r, g2, ?_, h4⟩
        unfold whileGo
        rw [bnd_okM h1]
        simp only [if_true]
        rw [bnd_okM h2]
        exact h3
  intro m env g w
  obtain ⟨n, r, g', h1, h2⟩ := key m env g w
  exact ⟨r, g', by rw [whileS_of (n := n) (by rw [h1]; exact fun z => by cases z), h1], h2⟩
theorem seqS_rt {a b : SX} {env : Slots} {g g' : Bag} {d : D} (h : a env g = .ok (.rt d) g') : seqS a b env g = .ok (.rt d) g' := by
  rw [seqS_eq, bnd_okM h]
  rfl
theorem newN_at {env : Slots} {g : Bag} : newNE env g = .ok (.cell g.cs.length) ⟨g.b, g.cs ++ [.dN [] []]⟩ := rfl
theorem lenM_dN {n : Nat} {g : Bag} {ks : List NestedKey} {xs : List D} (h : g.cs[n]? = some (.dN ks xs)) : lenM [.cell n] g = .ok (.int ks.length) g := by
  show (match g.cs[n]?.bind lenC with | some k => _ | none => _) = _
  rw [h]
  rfl
/-- where a key stands -/
theorem posX {κ : Type} {nk : κ → NestedKey} (hn : ∀ x y, nk x = nk y → x = y) (k : κ) : ∀ (L : List κ) (f : Nat → D) (o : Nat), (k ∈ L → ∃ p, L[p]? = some k ∧ valX (L.map nk) ((List.range L.length).map fun i => f (o + i)) (nk k) = some (f (o + p))) ∧ (k ∉ L → valX (L.map nk) ((List.range L.length).map fun i => f (o + i)) (nk k) = none)
  | [], f, o => ⟨(fun h => by cases h), fun _ => rfl⟩
  | x :: L, f, o => by
    obtain ⟨h1, h2⟩ := posX hn k L f (o + 1)
    have e : ((List.range (x :: L).length).map fun i => f (o + i)) = f o :: ((List.range L.length).map fun i => f (o + 1 + i)) := by
      rw [List.length_cons, List.range_succ_eq_map, List.map_cons, List.map_map]
      congr 1
      refine List.map_congr_left fun i _ => ?_
      show f (o + (i + 1)) = _
      congr 1
      omega
    rw [e, List.map_cons]
    unfold valX
    by_cases hx : x = k
    · subst hx
      refine ⟨fun _ => ⟨0, rfl, by rw [if_pos rfl]; rfl⟩, fun z => absurd List.mem_cons_self z⟩
    · rw [if_neg fun z => hx (hn _ _ z)]
      refine ⟨fun h => ?_, fun h => h2 fun z => h (List.mem_cons_of_mem _ z)⟩
      rcases List.mem_cons.mp h with h | h
      · exact absurd h.symm hx
      · obtain ⟨p, e1, e2⟩ := h1 h
        exact ⟨p + 1, by simpa using e1, by rw [e2]; congr 2; omega⟩
theorem mul2_lst (xs : List D) (k : Nat) (hk : k < 1000000) (hl : xs.length * k ≤ line) : mul2D (.lst xs) (.int k) = some (.lst (List.replicate k xs).flatten) := by
  have e : mul2D (.lst xs) (.int k) = if -(2 ^ 63) ≤ (k : Int) ∧ (k : Int) < 2 ^ 63 ∧ xs.length * (k : Int).toNat ≤ line then some (.lst (List.replicate (k : Int).toNat xs).flatten) else none := rfl
  rw [e, Int.toNat_natCast, if_pos ⟨by omega, by omega, hl⟩]
theorem mul2_tup (xs : List D) (k : Nat) (hx : xs ≠ []) (h2 : 1 ≤ k ∧ k ≤ 1000) (hl : xs.length ≤ 1000) : mul2D (.tup xs) (.int k) = some (.tup (List.replicate k xs).flatten) := by
  have e : mul2D (.tup xs) (.int k) = if (k : Int) = 1 then some (.tup xs) else if xs ≠ [] ∧ 2 ≤ (k : Int) ∧ (k : Int) ≤ 1000 ∧ xs.length ≤ 1000 then some (.tup (List.replicate (k : Int).toNat xs).flatten) else none := rfl
  rw [e, Int.toNat_natCast]
  by_cases h1 : k = 1
  · subst h1
    simp
  · rw [if_neg (by omega), if_pos ⟨hx, by omega, by omega, hl⟩]
/-- a list without doubles within another -/
theorem nodup_sub {α : Type} [DecidableEq α] : ∀ {l1 l2 : List α}, l1.Nodup → (∀ x ∈ l1, x ∈ l2) → l1.length ≤ l2.length
  | [], _, _, _ => Nat.zero_le _
  | a :: l1, l2, nd, h => by
    obtain ⟨h1, h2⟩ := List.nodup_cons.mp nd
    have hm := h a List.mem_cons_self
    have := nodup_sub (l1 := l1) (l2 := l2.erase a) h2 fun x hx => by
      have : x ≠ a := fun e => h1 (e ▸ hx)
      exact (List.mem_erase_of_ne this).mpr (h x (List.mem_cons_of_mem _ hx))
    rw [List.length_erase_of_mem hm] at this
    have hp : 0 < l2.length := List.length_pos_of_mem hm
    rw [List.length_cons]
    omega
/-! ### partitions: a finer one is not of fewer classes; of as many only if it is the same -/
section
variable {m na nb : Nat} {a b : Nat → Nat}
theorem pick_list (hsa : ∀ w, w < na → ∃ i, i < m ∧ a i = w) : ∃ pk : Nat → Nat, ∀ w, w < na → pk w < m ∧ a (pk w) = w := by
  refine ⟨fun w => if h : ∃ i, i < m ∧ a i = w then h.choose else 0, fun w hw => ?_⟩
  have h := hsa w hw
  simp only [dif_pos h]
  exact h.choose_spec
theorem finer_le (hb : ∀ i, i < m → b i < nb) (hsa : ∀ w, w < na → ∃ i, i < m ∧ a i = w) (hf : ∀ i j, i < m → j < m → b i = b j → a i = a j) : na ≤ nb := by
  obtain ⟨pk, hp⟩ := pick_list hsa
  have hinj : ((List.range na).map fun w => b (pk w)).Nodup := by
    have h2 : ∀ l : List Nat, l.Nodup → (∀ w ∈ l, w < na) → (l.map fun w => b (pk w)).Nodup := by
      intro l
      induction l with
      | nil => exact fun _ _ => List.nodup_nil
      | cons w l ih =>
        intro nd hl
        obtain ⟨n1, n2⟩ := List.nodup_cons.mp nd
        rw [List.map_cons, List.nodup_cons]
        refine ⟨fun z => ?_, ih n2 fun x hx => hl x (List.mem_cons_of_mem _ hx)⟩
        obtain ⟨y, hy, e⟩ := List.mem_map.mp z
        have hw := hp w (hl w List.mem_cons_self)
        have hy2 := hp y (hl y (List.mem_cons_of_mem _ hy))
        have := hf _ _ hy2.1 hw.1 e
        rw [hy2.2, hw.2] at this
        exact n1 (this ▸ hy)
    exact h2 _ List.nodup_range fun w hw => List.mem_range.mp hw
  have := pigeon nb _ hinj fun q hq => by
    obtain ⟨w, hw, rfl⟩ := List.mem_map.mp hq
    exact hb _ (hp w (List.mem_range.mp hw)).1
  simpa using this
theorem finer_eq (hb : ∀ i, i < m → b i < na) (ha : ∀ i, i < m → a i < na) (hsa : ∀ w, w < na → ∃ i, i < m ∧ a i = w) (hf : ∀ i j, i < m → j < m → b i = b j → a i = a j) {i j : Nat} (hi : i < m) (hj : j < m) (e : a i = a j) : b i = b j := by
  by_cases h : b i = b j
  · exact h
  exfalso
  obtain ⟨pk, hp⟩ := pick_list hsa
  have h2 : ∀ l : List Nat, l.Nodup → (∀ w ∈ l, w < na ∧ w ≠ a i) → (b i :: b j :: l.map fun w => b (pk w)).Nodup := by
    intro l nd hl
    have hpl : ∀ w ∈ l, b (pk w) ≠ b i ∧ b (pk w) ≠ b j := fun w hw => by
      have h1 := hp w (hl w hw).1
      refine ⟨fun z => (hl w hw).2 ?_, fun z => (hl w hw).2 ?_⟩
      · rw [← h1.2]; exact hf _ _ h1.1 hi z
      · rw [← h1.2, e]; exact hf _ _ h1.1 hj z
    have hn : (l.map fun w => b (pk w)).Nodup := by
      clear hpl
      induction l with
      | nil => exact List.nodup_nil
      | cons w l ih =>
        obtain ⟨n1, n2⟩ := List.nodup_cons.mp nd
        rw [List.map_cons, List.nodup_cons]
        refine ⟨fun z => ?_, ih n2 fun x hx => hl x (List.mem_cons_of_mem _ hx)⟩
        obtain ⟨y, hy, e2⟩ := List.mem_map.mp z
        have hw := hp w (hl w List.mem_cons_self).1
        have hy2 := hp y (hl y (List.mem_cons_of_mem _ hy)).1
        have := hf _ _ hy2.1 hw.1 e2
        rw [hy2.2, hw.2] at this
        exact n1 (this ▸ hy)
    rw [List.nodup_cons, List.nodup_cons]
    refine ⟨fun z => ?_, fun z => ?_, hn⟩
    · rcases List.mem_cons.mp z with z | z
      · exact h z
      · obtain ⟨w, hw, e2⟩ := List.mem_map.mp z
        exact (hpl w hw).1 e2
    · obtain ⟨w, hw, e2⟩ := List.mem_map.mp z
      exact (hpl w hw).2 e2
  have hnd := h2 ((List.range na).erase (a i)) (List.nodup_range.erase _) fun w hw => by
    have := (List.Nodup.mem_erase_iff List.nodup_range).mp hw
    exact ⟨List.mem_range.mp this.2, this.1⟩
  have := pigeon na _ hnd fun q hq => by
    rcases List.mem_cons.mp hq with rfl | hq
    · exact hb i hi
    · rcases List.mem_cons.mp hq with rfl | hq
      · exact hb j hj
      · obtain ⟨w, hw, rfl⟩ := List.mem_map.mp hq
        have := (List.Nodup.mem_erase_iff List.nodup_range).mp hw
        exact hb _ (hp w (List.mem_range.mp this.2)).1
  rw [List.length_cons, List.length_cons, List.length_map, List.length_erase_of_mem (List.mem_range.mpr (ha i hi)), List.length_range] at this
  have := ha i hi
  omega
end
end VC

/-! PV7: least of ints; where a key stands; the index of an item. -/
namespace VC
open PySem PySem.Spec L2 RZ
open PyProof.Rows hiding St

theorem alikeB_ints (ns : List Int) : alikeB ((ns.map D.int).map toPy) = true := by
  refine List.all_eq_true.mpr fun d hd => List.all_eq_true.mpr fun e he => ?_
  rw [List.map_map] at hd he
  obtain ⟨i, _, rfl⟩ := List.mem_map.mp hd
  obtain ⟨j, _, rfl⟩ := List.mem_map.mp he
  rfl
theorem minOk_ints (ns : List Int) : minOk (ns.map D.int) := by
  refine ⟨alikeB_ints ns, ?_, ?_, ?_⟩
  · rw [List.map_map]
    refine List.all_eq_true.mpr fun d hd => ?_
    obtain ⟨i, _, rfl⟩ := List.mem_map.mp hd
    rfl
  · induction ns with
    | nil => rfl
    | cons n r ih => simpa [PyData.plainAll, toPy, PyData.plain] using ih
  · have : PyData.depthAll ((ns.map D.int).map toPy) = 0 := by
      induction ns with
      | nil => rfl
      | cons n r ih => simpa [PyData.depthAll, toPy, PyData.depth] using ih
    omega
@[simp] theorem minL_ints (n : Int) (ns : List Int) : minL [.lst (.int n :: ns.map D.int)] = some (.int (ns.foldl min n)) := by
  have h : minOk (.int n :: ns.map D.int) := minOk_ints (n :: ns)
  show (if minOk (.int n :: ns.map D.int) then some (minOf (.int n) (ns.map D.int)) else none) = _
  rw [if_pos h]
  have e : toPy (minOf (.int n) (ns.map D.int)) = toPy (.int (ns.foldl min n)) := by
    rw [minOf_toPy, List.map_map]
    exact PySem.W.minD_ints n ns
  have hm := minOf_mem (ns.map D.int) (.int n)
  have hp : (toPy (minOf (.int n) (ns.map D.int))).plain = true := by rw [e]; rfl
  rw [toPy_inj _ _ hp e]
@[simp] theorem maxL_ints (n : Int) (ns : List Int) : maxL [.lst (.int n :: ns.map D.int)] = some (.int (ns.foldl max n)) := by
  show (intsOf ((n :: ns).map D.int)).bind _ = _
  rw [intsOf_map]
  rfl

theorem posK {κ κ' : Type} [DecidableEq κ'] {nk : κ → κ'} (hn : ∀ x y, nk x = nk y → x = y) (k : κ) : ∀ (L : List κ) (f : Nat → D) (o : Nat), (k ∈ L → ∃ p, L[p]? = some k ∧ valX (L.map nk) ((List.range L.length).map fun i => f (o + i)) (nk k) = some (f (o + p))) ∧ (k ∉ L → valX (L.map nk) ((List.range L.length).map fun i => f (o + i)) (nk k) = none)
  | [], f, o => ⟨(fun h => by cases h), fun _ => rfl⟩
  | x :: L, f, o => by
    obtain ⟨h1, h2⟩ := posK hn k L f (o + 1)
    have e : ((List.range (x :: L).length).map fun i => f (o + i)) = f o :: ((List.range L.length).map fun i => f (o + 1 + i)) := by
      rw [List.length_cons, List.range_succ_eq_map, List.map_cons, List.map_map]
      congr 1
      refine List.map_congr_left fun i _ => ?_
      show f (o + (i + 1)) = _
      congr 1
      omega
    rw [e, List.map_cons]
    unfold valX
    by_cases hx : x = k
    · subst hx
      refine ⟨fun _ => ⟨0, rfl, by rw [if_pos rfl]; rfl⟩, fun z => absurd List.mem_cons_self z⟩
    · rw [if_neg fun z => hx (hn _ _ z)]
      refine ⟨fun h => ?_, fun h => h2 fun z => h (List.mem_cons_of_mem _ z)⟩
      rcases List.mem_cons.mp h with h | h
      · exact absurd h.symm hx
      · obtain ⟨p, e1, e2⟩ := h1 h
        exact ⟨p + 1, by simpa using e1, by rw [e2]; congr 2; omega⟩
theorem idxOf_at {κ : Type} [DecidableEq κ] : ∀ {L : List κ} {p : Nat} {k : κ}, L.Nodup → L[p]? = some k → L.idxOf k = p
  | [], p, k, _, h => by simp at h
  | x :: L, p, k, nd, h => by
    obtain ⟨n1, n2⟩ := List.nodup_cons.mp nd
    cases p with
    | zero =>
      simp only [List.getElem?_cons_zero, Option.some.injEq] at h
      subst h
      simp [List.idxOf_cons]
    | succ p =>
      simp only [List.getElem?_cons_succ] at h
      have hne : ¬ x = k := fun e => n1 (e ▸ List.mem_of_getElem? h)
      have hb : (x == k) = false := by rw [beq_eq_false_iff_ne]; exact hne
      rw [List.idxOf_cons, idxOf_at n2 h, hb]
      rfl
theorem nodup_of_map {α β : Type} {f : α → β} : ∀ {l : List α}, (l.map f).Nodup → l.Nodup
  | [], _ => List.nodup_nil
  | a :: l, h => by
    rw [List.map_cons] at h
    obtain ⟨h1, h2⟩ := List.nodup_cons.mp h
    exact List.nodup_cons.mpr ⟨fun z => h1 (List.mem_map.mpr ⟨a, z, rfl⟩), nodup_of_map h2⟩
end VC

/-! K66a: what the defs of the law compute, as functions of slots. -/
namespace K66
open PySem PySem.Spec L2 RZ VC
open PyProof.Rows hiding St
def top (i : Nat) : Stmt := PySem.Challenge.pw_wordplays_k66_machines_and_breakers.main.body.getD i (.Pass ⟨0, 0, 0, 0⟩)
/-! ### is_integer -/
abbrev st_is_integer : Stmt := top 6
abbrev n_is_integer : List Str := ["value", "low", "high"]
abbrev p_is_integer : List Str := ["value", "low", "high"]
noncomputable def s_is_integer : SX := (retS (andE (isaE "int" (varE 0)) (andE (notE (isaE "bool" (varE 0))) (chE .LtE .LtE (varE 1) (varE 0) (varE 2)))))
noncomputable def r_is_integer : FX := fnD n_is_integer s_is_integer
/-! ### is_word -/
abbrev st_is_word : Stmt := top 7
abbrev n_is_word : List Str := ["n", "value", "letter"]
abbrev p_is_word : List Str := ["n", "value"]
noncomputable def e_is_word1 : EX := (lcE (seqI (varE 1)) (nameB 2) yesT (fnE r_is_integer (consA (varE 2) (consA (cE (.int 0)) (consA (bin2 subD (gtupE [1, 2, 4, 8, 16] (varE 0)) (cE (.int 1))) nilA))) p_is_integer.length) [2])
noncomputable def s_is_word : SX := (retS (andE (isaE "tuple" (varE 1)) (callE allL (consA e_is_word1 nilA))))
noncomputable def r_is_word : FX := fnD n_is_word s_is_word
/-! ### is_lasso -/
abbrev st_is_lasso : Stmt := top 8
abbrev n_is_lasso : List Str := ["n", "value"]
abbrev p_is_lasso : List Str := ["n", "value"]
noncomputable def s_is_lasso : SX := (seqS (ifS (orT (notT (valT (isaE "tuple" (varE 1)))) (orT (valT (bin2 neVD (callE lenL (consA (varE 1) nilA)) (cE (.int 3)))) (valT (bin2 neVD (bin2 ixD (varE 1) (cE (.int 0))) (cE (.str "lasso")))))) (retS (cE (.bl false))) nxS) (retS (andE (fnE r_is_word (consA (varE 0) (consA (bin2 ixD (varE 1) (cE (.int 1))) nilA)) p_is_word.length) (andE (fnE r_is_word (consA (varE 0) (consA (bin2 ixD (varE 1) (cE (.int 2))) nilA)) p_is_word.length) (bin2 neVD (bin2 ixD (varE 1) (cE (.int 2))) (tupE nilA))))))
noncomputable def r_is_lasso : FX := fnD n_is_lasso s_is_lasso
/-! ### has_head -/
abbrev st_has_head : Stmt := top 11
abbrev n_has_head : List Str := ["value", "word"]
abbrev p_has_head : List Str := ["value", "word"]
noncomputable def s_has_head : SX := (seqS (ifS (orT (notT (valT (isaE "tuple" (varE 0)))) (orT (valT (bin2 neVD (callE lenL (consA (varE 0) nilA)) (cE (.int 4)))) (valT (bin2 neVD (bin2 ixD (varE 0) (cE (.int 0))) (varE 1))))) (retS (cE (.bl false))) nxS) (seqS (ifS (orT (notT (valT (fnE r_is_integer (consA (bin2 ixD (varE 0) (cE (.int 1))) (consA (cE (.int 0)) (consA (cE (.int 4)) nilA))) p_is_integer.length))) (notT (valT (fnE r_is_integer (consA (bin2 ixD (varE 0) (cE (.int 2))) (consA (cE (.int 0)) (consA (cE (.int 4)) nilA))) p_is_integer.length)))) (retS (cE (.bl false))) nxS) (seqS (ifS (notT (valT (chE .LtE .LtE (cE (.int 1)) (bin2 addD (bin2 ixD (varE 0) (cE (.int 1))) (bin2 ixD (varE 0) (cE (.int 2)))) (cE (.int 4))))) (retS (cE (.bl false))) nxS) (retS (andE (isaE "tuple" (bin2 ixD (varE 0) (cE (.int 3)))) (bin2 gtD (callE lenL (consA (bin2 ixD (varE 0) (cE (.int 3))) nilA)) (cE (.int 0))))))))
noncomputable def r_has_head : FX := fnD n_has_head s_has_head
/-! ### is_answer -/
abbrev st_is_answer : Stmt := top 12
abbrev n_is_answer : List Str := ["value", "outs", "many"]
abbrev p_is_answer : List Str := ["value", "outs", "many"]
noncomputable def s_is_answer : SX := (seqS (ifS (orT (notT (valT (isaE "tuple" (varE 0)))) (valT (bin2 neVD (callE lenL (consA (varE 0) nilA)) (cE (.int 2))))) (retS (cE (.bl false))) nxS) (retS (andE (fnE r_is_integer (consA (bin2 ixD (varE 0) (cE (.int 0))) (consA (cE (.int 0)) (consA (bin2 subD (bin2 shlD (cE (.int 1)) (varE 1)) (cE (.int 1))) nilA))) p_is_integer.length) (fnE r_is_integer (consA (bin2 ixD (varE 0) (cE (.int 1))) (consA (cE (.int 0)) (consA (bin2 subD (varE 2) (cE (.int 1))) nilA))) p_is_integer.length))))
noncomputable def r_is_answer : FX := fnD n_is_answer s_is_answer
/-! ### is_machine -/
abbrev st_is_machine : Stmt := top 13
abbrev n_is_machine : List Str := ["value", "_", "ins", "outs", "states", "state", "one"]
abbrev p_is_machine : List Str := ["value"]
noncomputable def e_is_machine1 : EX := (lcE (seqI (varE 5)) (nameB 6) yesT (fnE r_is_answer (consA (varE 6) (consA (varE 3) (consA (callE lenL (consA (varE 4) nilA)) nilA))) p_is_answer.length) [6])
noncomputable def b_is_machine2 : SX := (seqS (ifS (orT (notT (valT (isaE "tuple" (varE 5)))) (valT (bin2 neVD (callE lenL (consA (varE 5) nilA)) (bin2 shlD (cE (.int 1)) (varE 2))))) (retS (cE (.bl false))) nxS) (ifS (notT (valT (callE allL (consA e_is_machine1 nilA)))) (retS (cE (.bl false))) nxS))
noncomputable def s_is_machine : SX := (seqS (ifS (notT (valT (fnE r_has_head (consA (varE 0) (consA (cE (.str "machine")) nilA)) p_has_head.length))) (retS (cE (.bl false))) nxS) (seqS (unpH [] (tupB 4 (consB (nameB 1) (consB (nameB 2) (consB (nameB 3) (consB (nameB 4) nilB))))) (varE 0)) (seqS (forH [] (seqI (varE 4)) (nameB 5) b_is_machine2) (retS (cE (.bl true))))))
noncomputable def r_is_machine : FX := fnD n_is_machine s_is_machine
/-! ### is_breaker -/
abbrev st_is_breaker : Stmt := top 14
abbrev n_is_breaker : List Str := ["value", "_", "ins", "outs", "states", "state", "one"]
abbrev p_is_breaker : List Str := ["value"]
noncomputable def e_is_breaker1 : EX := (lcE (seqI (bin2 ixD (varE 5) (cE (.int 1)))) (nameB 6) yesT (fnE r_is_integer (consA (varE 6) (consA (cE (.int 0)) (consA (bin2 subD (callE lenL (consA (varE 4) nilA)) (cE (.int 1))) nilA))) p_is_integer.length) [6])
noncomputable def b_is_breaker2 : SX := (seqS (ifS (orT (notT (valT (isaE "tuple" (varE 5)))) (orT (valT (bin2 neVD (callE lenL (consA (varE 5) nilA)) (cE (.int 2)))) (notT (valT (fnE r_is_integer (consA (bin2 ixD (varE 5) (cE (.int 0))) (consA (cE (.int 0)) (consA (bin2 subD (bin2 shlD (cE (.int 1)) (varE 2)) (cE (.int 1))) nilA))) p_is_integer.length))))) (retS (cE (.bl false))) nxS) (seqS (ifS (orT (notT (valT (isaE "tuple" (bin2 ixD (varE 5) (cE (.int 1)))))) (valT (bin2 neVD (callE lenL (consA (bin2 ixD (varE 5) (cE (.int 1))) nilA)) (bin2 shlD (cE (.int 1)) (varE 3))))) (retS (cE (.bl false))) nxS) (ifS (notT (valT (callE allL (consA e_is_breaker1 nilA)))) (retS (cE (.bl false))) nxS)))
noncomputable def s_is_breaker : SX := (seqS (ifS (notT (valT (fnE r_has_head (consA (varE 0) (consA (cE (.str "breaker")) nilA)) p_has_head.length))) (retS (cE (.bl false))) nxS) (seqS (unpH [] (tupB 4 (consB (nameB 1) (consB (nameB 2) (consB (nameB 3) (consB (nameB 4) nilB))))) (varE 0)) (seqS (forH [] (seqI (varE 4)) (nameB 5) b_is_breaker2) (retS (cE (.bl true))))))
noncomputable def r_is_breaker : FX := fnD n_is_breaker s_is_breaker
/-! ### classes_of -/
abbrev st_classes_of : Stmt := top 15
abbrev n_classes_of : List Str := ["states", "found", "many", "names", "after", "i", "state", "key", "output", "to"]
abbrev p_classes_of : List Str := ["states"]
noncomputable def e_classes_of1 : EX := (lcE (seqI (varE 6)) (tupB 2 (consB (nameB 8) (consB (nameB 9) nilB))) yesT (tupE (consA (varE 8) (consA (bin2 ixD (varE 1) (varE 9)) nilA))) [8, 9])
noncomputable def b_classes_of2 : SX := (seqS (asgH [4] 7 (tupE (consA (bin2 ixD (varE 1) (varE 5)) (consA (callE tupL (consA e_classes_of1 nilA)) nilA)))) (appH [4] 4 (setdE (varE 3) (varE 7) (callM lenM (consA (varE 3) nilA)))))
noncomputable def b_classes_of3 : SX := (seqS (asgH [] 3 newNE) (seqS (asgNH [] 4 (lstE nilA)) (seqS (forH [4] (enumTI (consA (varE 0) nilA)) (tupB 2 (consB (nameB 5) (consB (nameB 6) nilB))) b_classes_of2) (seqS (ifS (valT (bin2 eqVD (callM lenM (consA (varE 3) nilA)) (varE 2))) (retS (varE 4)) nxS) (seqS (asgH [4] 2 (callM lenM (consA (varE 3) nilA))) (asgH [] 1 (varE 4)))))))
noncomputable def s_classes_of : SX := (seqS (asgH [] 1 (bin2 mul2D (lstE (consA (cE (.int 0)) nilA)) (callE lenL (consA (varE 0) nilA)))) (seqS (asgH [] 2 (cE (.int 0))) (whileS (valT (cE (.bl true))) b_classes_of3)))
noncomputable def r_classes_of : FX := fnD n_classes_of s_classes_of
/-! ### numbered -/
abbrev st_numbered : Stmt := top 16
abbrev n_numbered : List Str := ["states", "classes", "numbers", "firsts", "rows", "row", "output", "to"]
abbrev p_numbered : List Str := ["states", "classes"]
noncomputable def b_numbered1 : SX := (seqS (ifS (valT (bin2 notInVD (bin2 ixD (varE 1) (varE 7)) (varE 2))) (seqS (dputF 2 (bin2 ixD (varE 1) (varE 7)) (callE lenDL (consA (varE 2) nilA))) (appH [2, 3, 4, 5] 3 (varE 7))) nxS) (appF 5 (tupE (consA (varE 6) (consA (bin2 getD (varE 2) (bin2 ixD (varE 1) (varE 7))) nilA)))))
noncomputable def b_numbered2 : SX := (seqS (asgNH [2, 3, 4] 5 (lstE nilA)) (seqS (forT [2, 3, 4, 5] (bin2 ixD (varE 0) (bin2 ixD (varE 3) (callE lenL (consA (varE 4) nilA)))) (tupB 2 (consB (nameB 6) (consB (nameB 7) nilB))) b_numbered1) (appF 4 (callE tupL (consA (varE 5) nilA)))))
noncomputable def s_numbered : SX := (seqS (asgNH [] 2 (disp1K (bin2 ixD (varE 1) (cE (.int 0))) (cE (.int 0)))) (seqS (asgNH [2] 3 (lstE (consA (cE (.int 0)) nilA))) (seqS (asgNH [2, 3] 4 (lstE nilA)) (seqS (whileS (valT (bin2 ltD (callE lenL (consA (varE 4) nilA)) (callE lenL (consA (varE 3) nilA)))) b_numbered2) (retS (callE tupL (consA (varE 4) nilA)))))))
noncomputable def r_numbered : FX := fnD n_numbered s_numbered
/-! ### reduced -/
abbrev st_reduced : Stmt := top 17
abbrev n_reduced : List Str := ["machine"]
abbrev p_reduced : List Str := ["machine"]
noncomputable def s_reduced : SX := (seqS (ifS (notT (valT (fnE r_is_machine (consA (varE 0) nilA) p_is_machine.length))) (raiseS 0 (cE (.int 0))) nxS) (retS (bin2 addD (slE (varE 0) noP (someP (cE (.int 3)))) (tupE (consA (fnE r_numbered (consA (bin2 ixD (varE 0) (cE (.int 3))) (consA (fnE r_classes_of (consA (bin2 ixD (varE 0) (cE (.int 3))) nilA) p_classes_of.length) nilA)) p_numbered.length) nilA)))))
noncomputable def r_reduced : FX := fnD n_reduced s_reduced
/-! ### letters_of -/
abbrev st_letters_of : Stmt := top 19
abbrev n_letters_of : List Str := ["device", "place", "word", "ins", "outs", "states", "given", "nexts", "answer", "to"]
abbrev p_letters_of : List Str := ["device", "place"]
noncomputable def e_letters_of1 : EX := (lcE (enumTI (consA (bin2 ixD (varE 5) (varE 1)) nilA)) (tupB 2 (consB (nameB 6) (consB (tupB 2 (consB (nameB 8) (consB (nameB 9) nilB))) nilB))) yesT (tupE (consA (bin2 addD (varE 6) (bin2 shlD (varE 8) (varE 3))) (consA (varE 9) nilA))) [6, 8, 9])
noncomputable def e_letters_of2 : EX := (lcE (enumTI (consA (varE 7) nilA)) (tupB 2 (consB (nameB 8) (consB (nameB 9) nilB))) yesT (tupE (consA (bin2 addD (varE 6) (bin2 shlD (varE 8) (varE 3))) (consA (varE 9) nilA))) [8, 9])
noncomputable def s_letters_of : SX := (seqS (unpH [] (tupB 4 (consB (nameB 2) (consB (nameB 3) (consB (nameB 4) (consB (nameB 5) nilB))))) (varE 0)) (seqS (ifS (valT (bin2 eqVD (varE 2) (cE (.str "machine")))) (retS e_letters_of1) nxS) (seqS (unpH [] (tupB 2 (consB (nameB 6) (consB (nameB 7) nilB))) (bin2 ixD (varE 5) (varE 1))) (retS e_letters_of2))))
noncomputable def r_letters_of : FX := fnD n_letters_of s_letters_of
/-! ### answers -/
abbrev st_answers : Stmt := top 21
abbrev n_answers : List Str := ["machine", "inputs", "_", "ins", "states", "place", "found", "given", "answer", "one"]
abbrev p_answers : List Str := ["machine", "inputs"]
noncomputable def e_answers1 : EX := (lcE (seqI (varE 1)) (nameB 9) yesT (fnE r_is_integer (consA (varE 9) (consA (cE (.int 0)) (consA (bin2 subD (bin2 shlD (cE (.int 1)) (varE 3)) (cE (.int 1))) nilA))) p_is_integer.length) [9])
noncomputable def b_answers2 : SX := (seqS (unpH [6] (tupB 2 (consB (nameB 8) (consB (nameB 5) nilB))) (bin2 ixD (bin2 ixD (varE 4) (varE 5)) (varE 7))) (appH [6] 6 (bin2 addD (varE 7) (bin2 shlD (varE 8) (varE 3)))))
noncomputable def s_answers : SX := (seqS (ifS (notT (valT (fnE r_is_machine (consA (varE 0) nilA) p_is_machine.length))) (raiseS 0 (cE (.int 0))) nxS) (seqS (unpH [] (tupB 4 (consB (nameB 2) (consB (nameB 3) (consB (nameB 2) (consB (nameB 4) nilB))))) (varE 0)) (seqS (ifS (orT (notT (valT (isaE "tuple" (varE 1)))) (notT (valT (callE allL (consA e_answers1 nilA))))) (raiseS0 1) nxS) (seqS (asgH [] 5 (cE (.int 0))) (seqS (asgNH [] 6 (lstE nilA)) (seqS (forH [6] (seqI (varE 1)) (nameB 7) b_answers2) (retS (callE tupL (consA (varE 6) nilA)))))))))
noncomputable def r_answers : FX := fnD n_answers s_answers
/-! ### meets -/
abbrev st_meets : Stmt := top 22
abbrev n_meets : List Str := ["machine", "breaker", "ins", "pair", "met", "letters", "given", "nexts", "answer", "to"]
abbrev p_meets : List Str := ["machine", "breaker"]
noncomputable def b_meets1 : SX := (seqS (dputF 4 (varE 3) (callE lenL (consA (varE 5) nilA))) (seqS (unpH [4] (tupB 2 (consB (nameB 6) (consB (nameB 7) nilB))) (bin2 ixD (bin2 ixD (varE 1) (cE (.int 3))) (bin2 ixD (varE 3) (cE (.int 1))))) (seqS (unpH [4] (tupB 2 (consB (nameB 8) (consB (nameB 9) nilB))) (bin2 ixD (bin2 ixD (bin2 ixD (varE 0) (cE (.int 3))) (bin2 ixD (varE 3) (cE (.int 0)))) (varE 6))) (seqS (asgH [4] 5 (bin2 addD (varE 5) (tupE (consA (bin2 addD (varE 6) (bin2 shlD (varE 8) (varE 2))) nilA)))) (asgH [4] 3 (tupE (consA (varE 9) (consA (bin2 ixD (varE 7) (varE 8)) nilA))))))))
noncomputable def s_meets : SX := (seqS (ifS (notT (valT (fnE r_is_machine (consA (varE 0) nilA) p_is_machine.length))) (raiseS 0 (cE (.int 0))) nxS) (seqS (ifS (orT (notT (valT (fnE r_is_breaker (consA (varE 1) nilA) p_is_breaker.length))) (valT (bin2 neVD (slE (varE 1) (someP (cE (.int 1))) (someP (cE (.int 3)))) (slE (varE 0) (someP (cE (.int 1))) (someP (cE (.int 3))))))) (raiseS 0 (cE (.int 1))) nxS) (seqS (asgH [] 2 (bin2 ixD (varE 0) (cE (.int 1)))) (seqS (asgH [] 3 (tupE (consA (cE (.int 0)) (consA (cE (.int 0)) nilA)))) (seqS (asgNH [] 4 newT) (seqS (asgH [4] 5 (tupE nilA)) (seqS (whileS (valT (bin2 notInVD (varE 3) (varE 4))) b_meets1) (retS (tupE (consA (cE (.str "lasso")) (consA (slE (varE 5) noP (someP (bin2 getD (varE 4) (varE 3)))) (consA (slE (varE 5) (someP (bin2 getD (varE 4) (varE 3))) noP) nilA))))))))))))
noncomputable def r_meets : FX := fnD n_meets s_meets
/-! ### look_at -/
abbrev st_look_at : Stmt := top 23
abbrev n_look_at : List Str := ["device"]
abbrev p_look_at : List Str := ["device"]
noncomputable def s_look_at : SX := (ifS (andT (notT (valT (fnE r_is_machine (consA (varE 0) nilA) p_is_machine.length))) (notT (valT (fnE r_is_breaker (consA (varE 0) nilA) p_is_breaker.length)))) (raiseS 0 (cE (.int 0))) nxS)
noncomputable def r_look_at : FX := fnD n_look_at s_look_at
/-! ### place_behind -/
abbrev st_place_behind : Stmt := top 24
abbrev n_place_behind : List Str := ["device", "place", "word", "letter", "found", "one", "to"]
abbrev p_place_behind : List Str := ["device", "place", "word"]
noncomputable def e_place_behind1 : EX := (lcE (seqI (fnE r_letters_of (consA (varE 0) (consA (varE 1) nilA)) p_letters_of.length)) (tupB 2 (consB (nameB 5) (consB (nameB 6) nilB))) (valT (bin2 eqVD (varE 5) (varE 3))) (varE 6) [5, 6])
noncomputable def b_place_behind2 : SX := (seqS (asgH [] 4 e_place_behind1) (seqS (ifS (valT (bin2 eqVD (callE lenL (consA (varE 4) nilA)) (cE (.int 0)))) (retS (cE .non)) nxS) (asgH [] 1 (bin2 ixD (varE 4) (cE (.int 0))))))
noncomputable def s_place_behind : SX := (seqS (forH [] (seqI (varE 2)) (nameB 3) b_place_behind2) (retS (varE 1)))
noncomputable def r_place_behind : FX := fnD n_place_behind s_place_behind
/-! ### follows -/
abbrev st_follows : Stmt := top 25
abbrev n_follows : List Str := ["device", "word"]
abbrev p_follows : List Str := ["device", "word"]
noncomputable def s_follows : SX := (seqS (dropS (fnXE r_look_at (consA (varE 0) nilA) p_look_at.length)) (seqS (ifS (notT (valT (fnE r_is_word (consA (bin2 addD (bin2 ixD (varE 0) (cE (.int 1))) (bin2 ixD (varE 0) (cE (.int 2)))) (consA (varE 1) nilA)) p_is_word.length))) (raiseS0 1) nxS) (retS (bin2 notNonD (fnE r_place_behind (consA (varE 0) (consA (cE (.int 0)) (consA (varE 1) nilA))) p_place_behind.length) (cE .non)))))
noncomputable def r_follows : FX := fnD n_follows s_follows
/-! ### follows_lasso -/
abbrev st_follows_lasso : Stmt := top 26
abbrev n_follows_lasso : List Str := ["device", "lasso", "place", "met"]
abbrev p_follows_lasso : List Str := ["device", "lasso"]
noncomputable def b_follows_lasso1 : SX := (seqS (dputF 3 (varE 2) (cE (.bl true))) (asgH [3] 2 (fnE r_place_behind (consA (varE 0) (consA (varE 2) (consA (bin2 ixD (varE 1) (cE (.int 2))) nilA))) p_place_behind.length)))
noncomputable def s_follows_lasso : SX := (seqS (dropS (fnXE r_look_at (consA (varE 0) nilA) p_look_at.length)) (seqS (ifS (notT (valT (fnE r_is_lasso (consA (bin2 addD (bin2 ixD (varE 0) (cE (.int 1))) (bin2 ixD (varE 0) (cE (.int 2)))) (consA (varE 1) nilA)) p_is_lasso.length))) (raiseS0 1) nxS) (seqS (asgH [] 2 (fnE r_place_behind (consA (varE 0) (consA (cE (.int 0)) (consA (bin2 ixD (varE 1) (cE (.int 1))) nilA))) p_place_behind.length)) (seqS (asgNH [] 3 newK) (seqS (whileS (andT (valT (bin2 notNonD (varE 2) (cE .non))) (valT (bin2 notInVD (varE 2) (varE 3)))) b_follows_lasso1) (retS (bin2 notNonD (varE 2) (cE .non))))))))
noncomputable def r_follows_lasso : FX := fnD n_follows_lasso s_follows_lasso
/-! ### _law_bag -/
abbrev st__law_bag : Stmt := top 28
abbrev n__law_bag : List Str := ["script", "k", "cell"]
abbrev p__law_bag : List Str := ["script", "k"]
/-! ### _law_draw -/
abbrev st__law_draw : Stmt := top 29
abbrev n__law_draw : List Str := ["bag", "many", "seed", "rest"]
abbrev p__law_draw : List Str := ["bag", "many"]
noncomputable def s__law_draw : SX := (seqS (ifS (valT (bin2 eqVD (bagE 0 (varE 0)) (cE (.int 0)))) (seqS (asgH [] 2 (bin2 modD (callE intL (consA (bin2 addD (bin2 addD (bin2 mul2D (bagE 1 (varE 0)) (cE (.int 48271))) (bin2 mul2D (bagE 2 (varE 0)) (cE (.int 69621)))) (cE (.int 11))) nilA)) (cE (.int 2147483647)))) (seqS (bagS 0 0 (bin2 addD (bin2 mul2D (varE 2) (cE (.int 2147483629))) (bin2 modD (callE intL (consA (bin2 addD (bin2 mul2D (varE 2) (varE 2)) (bin2 mul2D (bagE 2 (varE 0)) (cE (.int 16807)))) nilA)) (cE (.int 2147483629))))) (bagS 0 1 (varE 2)))) nxS) (seqS (asgH [] 3 (bagE 0 (varE 0))) (seqS (bagS 0 0 (bin2 divD (varE 3) (varE 1))) (retS (bin2 modD (callE intL (consA (varE 3) nilA)) (varE 1))))))
noncomputable def r__law_draw : FX := fnD n__law_draw s__law_draw
/-! ### _law_machine -/
abbrev st__law_machine : Stmt := top 30
abbrev n__law_machine : List Str := ["bag", "ins", "outs", "most", "many", "rows", "k", "given"]
abbrev p__law_machine : List Str := ["bag", "ins", "outs", "most"]
noncomputable def e_law_machine1 : EX := (lcE (rng1I (consA (bin2 shlD (cE (.int 1)) (varE 1)) nilA)) (nameB 7) yesT (tupE (consA (fnE r__law_draw (consA (varE 0) (consA (bin2 shlD (cE (.int 1)) (varE 2)) nilA)) p__law_draw.length) (consA (fnE r__law_draw (consA (varE 0) (consA (varE 4) nilA)) p__law_draw.length) nilA))) [7])
noncomputable def b_law_machine2 : SX := (appH [5] 5 (callE tupL (consA e_law_machine1 nilA)))
noncomputable def s__law_machine : SX := (seqS (asgH [] 4 (bin2 addD (cE (.int 1)) (fnE r__law_draw (consA (varE 0) (consA (varE 3) nilA)) p__law_draw.length))) (seqS (asgNH [] 5 (lstE nilA)) (seqS (forH [5] (rng1I (consA (varE 4) nilA)) (nameB 6) b_law_machine2) (retS (tupE (consA (cE (.str "machine")) (consA (varE 1) (consA (varE 2) (consA (callE tupL (consA (varE 5) nilA)) nilA)))))))))
noncomputable def r__law_machine : FX := fnD n__law_machine s__law_machine
/-! ### _law_breaker -/
abbrev st__law_breaker : Stmt := top 31
abbrev n__law_breaker : List Str := ["bag", "ins", "outs", "many", "rows", "k", "answer"]
abbrev p__law_breaker : List Str := ["bag", "ins", "outs"]
noncomputable def e_law_breaker1 : EX := (lcE (rng1I (consA (bin2 shlD (cE (.int 1)) (varE 2)) nilA)) (nameB 6) yesT (fnE r__law_draw (consA (varE 0) (consA (varE 3) nilA)) p__law_draw.length) [6])
noncomputable def b_law_breaker2 : SX := (appH [4] 4 (tupE (consA (fnE r__law_draw (consA (varE 0) (consA (bin2 shlD (cE (.int 1)) (varE 1)) nilA)) p__law_draw.length) (consA (callE tupL (consA e_law_breaker1 nilA)) nilA))))
noncomputable def s__law_breaker : SX := (seqS (asgH [] 3 (bin2 addD (cE (.int 1)) (fnE r__law_draw (consA (varE 0) (consA (cE (.int 4)) nilA)) p__law_draw.length))) (seqS (asgNH [] 4 (lstE nilA)) (seqS (forH [4] (rng1I (consA (varE 3) nilA)) (nameB 5) b_law_breaker2) (retS (tupE (consA (cE (.str "breaker")) (consA (varE 1) (consA (varE 2) (consA (callE tupL (consA (varE 4) nilA)) nilA)))))))))
noncomputable def r__law_breaker : FX := fnD n__law_breaker s__law_breaker
/-! ### _law_next -/
abbrev st__law_next : Stmt := top 32
abbrev n__law_next : List Str := ["device", "place", "letter", "word", "ins", "outs", "states", "given", "answer", "one", "to", "nexts"]
abbrev p__law_next : List Str := ["device", "place", "letter"]
noncomputable def s__law_next : SX := (seqS (unpH [] (tupB 4 (consB (nameB 3) (consB (nameB 4) (consB (nameB 5) (consB (nameB 6) nilB))))) (varE 0)) (seqS (asgH [] 7 (bin2 bandD (varE 2) (bin2 subD (bin2 shlD (cE (.int 1)) (varE 4)) (cE (.int 1))))) (seqS (asgH [] 8 (bin2 shrD (varE 2) (varE 4))) (seqS (ifS (valT (bin2 eqVD (varE 3) (cE (.str "machine")))) (seqS (unpH [] (tupB 2 (consB (nameB 9) (consB (nameB 10) nilB))) (bin2 ixD (bin2 ixD (varE 6) (varE 1)) (varE 7))) (retS (bin2 ixD (lstE (consA (cE .non) (consA (varE 10) nilA))) (callE intL (consA (bin2 eqVD (varE 9) (varE 8)) nilA))))) nxS) (seqS (unpH [] (tupB 2 (consB (nameB 9) (consB (nameB 11) nilB))) (bin2 ixD (varE 6) (varE 1))) (retS (bin2 ixD (lstE (consA (cE .non) (consA (bin2 ixD (varE 11) (varE 8)) nilA))) (callE intL (consA (bin2 eqVD (varE 9) (varE 7)) nilA)))))))))
noncomputable def r__law_next : FX := fnD n__law_next s__law_next
/-! ### _law_follows -/
abbrev st__law_follows : Stmt := top 33
abbrev n__law_follows : List Str := ["device", "word", "place", "letter"]
abbrev p__law_follows : List Str := ["device", "word"]
noncomputable def b_law_follows1 : SX := (ifS (valT (bin2 notNonD (varE 2) (cE .non))) (asgH [] 2 (fnE r__law_next (consA (varE 0) (consA (varE 2) (consA (varE 3) nilA))) p__law_next.length)) nxS)
noncomputable def s__law_follows : SX := (seqS (asgH [] 2 (cE (.int 0))) (seqS (forH [] (seqI (varE 1)) (nameB 3) b_law_follows1) (retS (bin2 notNonD (varE 2) (cE .non)))))
noncomputable def r__law_follows : FX := fnD n__law_follows s__law_follows
/-! ### _law_alike, which calls itself -/
abbrev st__law_alike : Stmt := top 34
abbrev n__law_alike : List Str := ["machine", "one", "other", "k", "given", "a", "to", "b", "then"]
abbrev p__law_alike : List Str := ["machine", "one", "other", "k"]
noncomputable def b_law_alike1 (ρr : FX) : SX := (seqS (unpH [] (tupB 2 (consB (nameB 5) (consB (nameB 6) nilB))) (bin2 ixD (bin2 ixD (bin2 ixD (varE 0) (cE (.int 3))) (varE 1)) (varE 4))) (seqS (unpH [] (tupB 2 (consB (nameB 7) (consB (nameB 8) nilB))) (bin2 ixD (bin2 ixD (bin2 ixD (varE 0) (cE (.int 3))) (varE 2)) (varE 4))) (ifS (orT (valT (bin2 neVD (varE 5) (varE 7))) (notT (valT (fnE ρr (consA (varE 0) (consA (varE 6) (consA (varE 8) (consA (bin2 subD (varE 3) (cE (.int 1))) nilA)))) p__law_alike.length)))) (retS (cE (.bl false))) nxS)))
noncomputable def s__law_alike (ρr : FX) : SX := (seqS (ifS (valT (bin2 eqVD (varE 3) (cE (.int 0)))) (retS (cE (.bl true))) nxS) (seqS (forH [] (rng1I (consA (bin2 shlD (cE (.int 1)) (bin2 ixD (varE 0) (cE (.int 1)))) nilA)) (nameB 4) (b_law_alike1 ρr)) (retS (cE (.bl true)))))
noncomputable def r__law_alike : Nat → FX := recD n__law_alike s__law_alike
/-! ### _law_reduced -/
abbrev st__law_reduced : Stmt := top 35
abbrev n__law_reduced : List Str := ["machine", "word", "ins", "outs", "states", "names", "k", "order", "rows", "row", "answer", "to", "i"]
abbrev p__law_reduced : List Str := ["machine"]
noncomputable def e_law_reduced1 : EX := (lcE (rng1I (consA (bin2 addD (varE 6) (cE (.int 1))) nilA)) (nameB 12) (valT (fnE (r__law_alike 5) (consA (varE 0) (consA (varE 12) (consA (varE 6) (consA (callE lenL (consA (varE 4) nilA)) nilA)))) p__law_alike.length)) (varE 12) [12])
noncomputable def b_law_reduced2 : SX := (appH [5] 5 (callE minL (consA e_law_reduced1 nilA)))
noncomputable def b_law_reduced3 : SX := (seqS (ifS (valT (bin2 notInSD (bin2 ixD (varE 5) (varE 11)) (varE 7))) (appF 7 (bin2 ixD (varE 5) (varE 11))) nxS) (appF 9 (tupE (consA (varE 10) (consA (idxE (varE 7) (bin2 ixD (varE 5) (varE 11))) nilA)))))
noncomputable def b_law_reduced4 : SX := (seqS (asgNH [5, 7, 8] 9 (lstE nilA)) (seqS (forT [5, 7, 8, 9] (bin2 ixD (varE 4) (bin2 ixD (varE 7) (callE lenL (consA (varE 8) nilA)))) (tupB 2 (consB (nameB 10) (consB (nameB 11) nilB))) b_law_reduced3) (appF 8 (callE tupL (consA (varE 9) nilA)))))
noncomputable def s__law_reduced : SX := (seqS (unpH [] (tupB 4 (consB (nameB 1) (consB (nameB 2) (consB (nameB 3) (consB (nameB 4) nilB))))) (varE 0)) (seqS (asgNH [] 5 (lstE nilA)) (seqS (forH [5] (rng1I (consA (callE lenL (consA (varE 4) nilA)) nilA)) (nameB 6) b_law_reduced2) (seqS (asgN 7 (lstE (consA (bin2 ixD (varE 5) (cE (.int 0))) nilA))) (seqS (asgNH [5, 7] 8 (lstE nilA)) (seqS (whileS (valT (bin2 ltD (callE lenL (consA (varE 8) nilA)) (callE lenL (consA (varE 7) nilA)))) b_law_reduced4) (retS (tupE (consA (varE 1) (consA (varE 2) (consA (varE 3) (consA (callE tupL (consA (varE 8) nilA)) nilA))))))))))))
noncomputable def r__law_reduced : FX := fnD n__law_reduced s__law_reduced
/-! ### _law_word -/
abbrev st__law_word : Stmt := top 36
abbrev n__law_word : List Str := ["call", "one", "other", "e"]
abbrev p__law_word : List Str := ["call", "one", "other"]
/-! ### _law_meeting -/
abbrev st__law_meeting : Stmt := top 37
abbrev n__law_meeting : List Str := ["machine", "breaker", "ins", "pairs", "letters", "pair", "k", "given", "nexts", "answer", "to", "at"]
abbrev p__law_meeting : List Str := ["machine", "breaker"]
noncomputable def b_law_meeting1 : SX := (seqS (ifS (valT (bin2 inSD (varE 5) (varE 3))) brkS nxS) (seqS (appH [3, 4] 3 (varE 5)) (seqS (unpH [3, 4] (tupB 2 (consB (nameB 7) (consB (nameB 8) nilB))) (bin2 ixD (bin2 ixD (varE 1) (cE (.int 3))) (bin2 ixD (varE 5) (cE (.int 1))))) (seqS (unpH [3, 4] (tupB 2 (consB (nameB 9) (consB (nameB 10) nilB))) (bin2 ixD (bin2 ixD (bin2 ixD (varE 0) (cE (.int 3))) (bin2 ixD (varE 5) (cE (.int 0)))) (varE 7))) (seqS (appH [3, 4] 4 (bin2 addD (varE 7) (bin2 shlD (varE 9) (varE 2)))) (asgH [3, 4] 5 (tupE (consA (varE 10) (consA (bin2 ixD (varE 8) (varE 9)) nilA)))))))))
noncomputable def s__law_meeting : SX := (seqS (asgH [] 2 (bin2 ixD (varE 0) (cE (.int 1)))) (seqS (asgNH [] 3 (lstE nilA)) (seqS (asgNH [3] 4 (lstE nilA)) (seqS (asgH [3, 4] 5 (tupE (consA (cE (.int 0)) (consA (cE (.int 0)) nilA)))) (seqS (forH [3, 4] (rng1I (consA (cE (.int 40)) nilA)) (nameB 6) b_law_meeting1) (seqS (asgF 11 (idxE (varE 3) (varE 5))) (retS (tupE (consA (cE (.str "lasso")) (consA (callE tupL (consA (slE (varE 4) noP (someP (varE 11))) nilA)) (consA (callE tupL (consA (slE (varE 4) (someP (varE 11)) noP) nilA)) nilA)))))))))))
noncomputable def r__law_meeting : FX := fnD n__law_meeting s__law_meeting
/-! ### _law_wrong -/
abbrev st__law_wrong : Stmt := top 38
abbrev n__law_wrong : List Str := ["bag", "machine", "breaker", "states"]
abbrev p__law_wrong : List Str := ["bag", "machine", "breaker"]
noncomputable def s__law_wrong : SX := (seqS (asgH [] 3 (bin2 ixD (varE 1) (cE (.int 3)))) (retS (bin2 ixD (lstE (consA (cE .non) (consA (tupE (consA (cE (.str "machine")) (consA (bin2 ixD (varE 1) (cE (.int 1))) (consA (bin2 ixD (varE 1) (cE (.int 2))) (consA (tupE nilA) nilA))))) (consA (bin2 addD (tupE (consA (cE (.str "machines")) nilA)) (slE (varE 1) (someP (cE (.int 1))) noP)) (consA (bin2 addD (slE (varE 1) noP (someP (cE (.int 3)))) (tupE (consA (callE listL (consA (varE 3) nilA)) nilA))) (consA (bin2 addD (slE (varE 1) noP (someP (cE (.int 3)))) (tupE (consA (bin2 addD (varE 3) (tupE (consA (tupE nilA) nilA))) nilA))) (consA (bin2 addD (slE (varE 1) noP (someP (cE (.int 3)))) (tupE (consA (bin2 addD (tupE (consA (bin2 mul2D (tupE (consA (tupE (consA (cE (.int 0)) (consA (callE lenL (consA (varE 3) nilA)) nilA))) nilA)) (bin2 shlD (cE (.int 1)) (bin2 ixD (varE 1) (cE (.int 1))))) nilA)) (slE (varE 3) (someP (cE (.int 1))) noP)) nilA))) (consA (tupE (consA (cE (.str "machine")) (consA (cE (.int 3)) (consA (cE (.int 2)) (consA (varE 3) nilA))))) (consA (bin2 addD (slE (varE 1) noP (someP (cE (.int 3)))) (tupE (consA (bin2 addD (tupE (consA (bin2 mul2D (tupE (consA (tupE (consA (bin2 shlD (cE (.int 1)) (bin2 ixD (varE 1) (cE (.int 2)))) (consA (cE (.int 0)) nilA))) nilA)) (bin2 shlD (cE (.int 1)) (bin2 ixD (varE 1) (cE (.int 1))))) nilA)) (slE (varE 3) (someP (cE (.int 1))) noP)) nilA))) (consA (tupE (consA (cE (.str "machine")) (consA (cE (.bl true)) (consA (bin2 ixD (varE 1) (cE (.int 2))) (consA (varE 3) nilA))))) (consA (bin2 addD (slE (varE 2) noP (someP (cE (.int 3)))) (tupE (consA (bin2 addD (bin2 ixD (varE 2) (cE (.int 3))) (tupE (consA (tupE (consA (bin2 shlD (cE (.int 1)) (bin2 ixD (varE 2) (cE (.int 1)))) (consA (bin2 ixD (bin2 ixD (bin2 ixD (varE 2) (cE (.int 3))) (cE (.int 0))) (cE (.int 1))) nilA))) nilA))) nilA))) (consA (tupE (consA (cE (.str "breaker")) (consA (cE (.int 0)) (consA (cE (.int 0)) (consA (tupE (consA (tupE (consA (cE (.int 0)) (consA (tupE (consA (cE (.int 0)) nilA)) nilA))) nilA)) nilA))))) nilA)))))))))))) (fnE r__law_draw (consA (varE 0) (consA (cE (.int 11)) nilA)) p__law_draw.length))))
noncomputable def r__law_wrong : FX := fnD n__law_wrong s__law_wrong
/-! ### _law_case -/
abbrev st__law_case : Stmt := top 39
abbrev n__law_case : List Str := ["bag", "ins", "outs", "machine", "breaker", "k", "given", "word", "lasso", "device", "other", "near", "wrong", "letter", "turn"]
abbrev p__law_case : List Str := ["bag"]
noncomputable def e_law_case1 : EX := (lcE (rng1I (consA (fnE r__law_draw (consA (varE 0) (consA (cE (.int 7)) nilA)) p__law_draw.length) nilA)) (nameB 5) yesT (fnE r__law_draw (consA (varE 0) (consA (bin2 shlD (cE (.int 1)) (varE 1)) nilA)) p__law_draw.length) [5])
noncomputable def e_law_case2 : EX := (lcE (seqI (varE 7)) (nameB 13) yesT (bin2 bandD (varE 13) (bin2 subD (bin2 shlD (cE (.int 1)) (varE 1)) (cE (.int 1)))) [13])
noncomputable def e_law_case3 : EX := (lcE (rng1I (consA (fnE r__law_draw (consA (varE 0) (consA (cE (.int 3)) nilA)) p__law_draw.length) nilA)) (nameB 14) yesT (fnE r__law_draw (consA (varE 0) (consA (bin2 shlD (cE (.int 1)) (bin2 addD (varE 1) (varE 2))) nilA)) p__law_draw.length) [14])
noncomputable def b_law_case4 : SX := (seqS (asgH [] 10 (bin2 addD (slE (varE 7) noP (someP (fnE r__law_draw (consA (varE 0) (consA (bin2 addD (callE lenL (consA (varE 7) nilA)) (cE (.int 1))) nilA)) p__law_draw.length))) (callE tupL (consA e_law_case3 nilA)))) (seqS (asgH [] 11 (tupE (consA (cE (.str "lasso")) (consA (varE 10) (consA (bin2 ixD (varE 8) (cE (.int 2))) nilA))))) (ifS (orT (valT (bin2 neVD (fnE r_follows (consA (varE 9) (consA (varE 10) nilA)) p_follows.length) (fnE r__law_follows (consA (varE 9) (consA (varE 10) nilA)) p__law_follows.length))) (valT (bin2 neVD (fnE r_follows_lasso (consA (varE 9) (consA (varE 11) nilA)) p_follows_lasso.length) (fnE r__law_follows (consA (varE 9) (consA (bin2 addD (varE 10) (bin2 mul2D (bin2 ixD (varE 8) (cE (.int 2))) (cE (.int 24)))) nilA)) p__law_follows.length)))) (retS (cE (.bl false))) nxS)))
noncomputable def b_law_case5 : SX := (seqS (ifS (valT (bin2 notBlD (fnE r_follows_lasso (consA (varE 9) (consA (varE 8) nilA)) p_follows_lasso.length) (cE (.bl true)))) (retS (cE (.bl false))) nxS) (forH [] (rng1I (consA (cE (.int 5)) nilA)) (nameB 5) b_law_case4))
noncomputable def s__law_case : SX := (seqS (unpH [] (tupB 2 (consB (nameB 1) (consB (nameB 2) nilB))) (bin2 ixD (lstE (consA (tupE (consA (cE (.int 1)) (consA (cE (.int 1)) nilA))) (consA (tupE (consA (cE (.int 2)) (consA (cE (.int 1)) nilA))) (consA (tupE (consA (cE (.int 0)) (consA (cE (.int 2)) nilA))) (consA (tupE (consA (cE (.int 1)) (consA (cE (.int 2)) nilA))) (consA (tupE (consA (cE (.int 2)) (consA (cE (.int 0)) nilA))) nilA)))))) (fnE r__law_draw (consA (varE 0) (consA (cE (.int 5)) nilA)) p__law_draw.length))) (seqS (asgH [] 3 (fnE r__law_machine (consA (varE 0) (consA (varE 1) (consA (varE 2) (consA (cE (.int 4)) nilA)))) p__law_machine.length)) (seqS (asgH [] 4 (fnE r__law_breaker (consA (varE 0) (consA (varE 1) (consA (varE 2) nilA))) p__law_breaker.length)) (seqS (ifS (orT (valT (bin2 notBlD (fnE r_is_machine (consA (varE 3) nilA) p_is_machine.length) (cE (.bl true)))) (orT (valT (bin2 notBlD (fnE r_is_breaker (consA (varE 4) nilA) p_is_breaker.length) (cE (.bl true)))) (orT (valT (bin2 notBlD (fnE r_is_machine (consA (varE 4) nilA) p_is_machine.length) (cE (.bl false)))) (valT (bin2 notBlD (fnE r_is_breaker (consA (varE 3) nilA) p_is_breaker.length) (cE (.bl false))))))) (retS (cE (.bl false))) nxS) (seqS (asgH [] 6 (callE tupL (consA e_law_case1 nilA))) (seqS (asgH [] 7 (fnE r_answers (consA (varE 3) (consA (varE 6) nilA)) p_answers.length)) (seqS (ifS (orT (notT (valT (fnE r__law_follows (consA (varE 3) (consA (varE 7) nilA)) p__law_follows.length))) (valT (bin2 neVD (callE tupL (consA e_law_case2 nilA)) (varE 6)))) (retS (cE (.bl false))) nxS) (seqS (asgH [] 8 (fnE r_meets (consA (varE 3) (consA (varE 4) nilA)) p_meets.length)) (seqS (ifS (valT (bin2 neVD (varE 8) (fnE r__law_meeting (consA (varE 3) (consA (varE 4) nilA)) p__law_meeting.length))) (retS (cE (.bl false))) nxS) (seqS (forH [] (seqI (tupE (consA (varE 3) (consA (varE 4) nilA)))) (nameB 9) b_law_case5) (seqS (ifS (valT (bin2 neVD (fnE r_reduced (consA (varE 3) nilA) p_reduced.length) (fnE r__law_reduced (consA (varE 3) nilA) p__law_reduced.length))) (retS (cE (.bl false))) nxS) (seqS (asgH [] 12 (fnE r__law_wrong (consA (varE 0) (consA (varE 3) (consA (varE 4) nilA))) p__law_wrong.length)) (seqS (ifS (orT (valT (bin2 notBlD (fnE r_is_machine (consA (varE 12) nilA) p_is_machine.length) (cE (.bl false)))) (orT (valT (bin2 notBlD (fnE r_is_breaker (consA (varE 12) nilA) p_is_breaker.length) (cE (.bl false)))) (orT (valT (bin2 neVD (wordE r_answers (consA (varE 12) (consA (tupE nilA) nilA))) (cE (.int 0)))) (valT (bin2 neVD (wordE r_follows (consA (varE 12) (consA (tupE nilA) nilA))) (cE (.int 0))))))) (retS (cE (.bl false))) nxS) (seqS (ifS (orT (valT (bin2 neVD (wordE r_meets (consA (varE 3) (consA (varE 3) nilA))) (cE (.int 1)))) (valT (bin2 neVD (wordE r_answers (consA (varE 3) (consA (tupE (consA (bin2 shlD (cE (.int 1)) (varE 1)) nilA)) nilA))) (cE (.str "word"))))) (retS (cE (.bl false))) nxS) (retS (andE (bin2 eqVD (wordE r_follows (consA (varE 3) (consA (tupE (consA (bin2 shlD (cE (.int 1)) (bin2 addD (varE 1) (varE 2))) nilA)) nilA))) (cE (.str "word"))) (bin2 eqVD (wordE r_follows_lasso (consA (varE 4) (consA (tupE (consA (cE (.str "lasso")) (consA (tupE nilA) (consA (tupE nilA) nilA)))) nilA))) (cE (.str "word")))))))))))))))))))
noncomputable def r__law_case : FX := fnD n__law_case s__law_case
/-! ### law -/
abbrev st_law : Stmt := top 40
abbrev n_law : List Str := ["script", "k"]
abbrev p_law : List Str := ["script"]
abbrev st_ini_BadMachine : Stmt := inClass (top 3) 0
/-- what the written part holds -/
structure Txt (K : PySem.W.Frag) (mg : Str → Option Value) where
  d_is_integer : DefAt K mg "is_integer" st_is_integer p_is_integer
  d_is_word : DefAt K mg "is_word" st_is_word p_is_word
  d_is_lasso : DefAt K mg "is_lasso" st_is_lasso p_is_lasso
  d_has_head : DefAt K mg "has_head" st_has_head p_has_head
  d_is_answer : DefAt K mg "is_answer" st_is_answer p_is_answer
  d_is_machine : DefAt K mg "is_machine" st_is_machine p_is_machine
  d_is_breaker : DefAt K mg "is_breaker" st_is_breaker p_is_breaker
  d_classes_of : DefAt K mg "classes_of" st_classes_of p_classes_of
  d_numbered : DefAt K mg "numbered" st_numbered p_numbered
  d_reduced : DefAt K mg "reduced" st_reduced p_reduced
  d_letters_of : DefAt K mg "letters_of" st_letters_of p_letters_of
  d_answers : DefAt K mg "answers" st_answers p_answers
  d_meets : DefAt K mg "meets" st_meets p_meets
  d_look_at : DefAt K mg "look_at" st_look_at p_look_at
  d_place_behind : DefAt K mg "place_behind" st_place_behind p_place_behind
  d_follows : DefAt K mg "follows" st_follows p_follows
  d_follows_lasso : DefAt K mg "follows_lasso" st_follows_lasso p_follows_lasso
  d__law_bag : DefAt K mg "_law_bag" st__law_bag p__law_bag
  d__law_draw : DefAt K mg "_law_draw" st__law_draw p__law_draw
  d__law_machine : DefAt K mg "_law_machine" st__law_machine p__law_machine
  d__law_breaker : DefAt K mg "_law_breaker" st__law_breaker p__law_breaker
  d__law_next : DefAt K mg "_law_next" st__law_next p__law_next
  d__law_follows : DefAt K mg "_law_follows" st__law_follows p__law_follows
  d__law_alike : DefAt K mg "_law_alike" st__law_alike p__law_alike
  d__law_reduced : DefAt K mg "_law_reduced" st__law_reduced p__law_reduced
  d__law_word : DefAt K mg "_law_word" st__law_word p__law_word
  d__law_meeting : DefAt K mg "_law_meeting" st__law_meeting p__law_meeting
  d__law_wrong : DefAt K mg "_law_wrong" st__law_wrong p__law_wrong
  d__law_case : DefAt K mg "_law_case" st__law_case p__law_case
  d_law : DefAt K mg "law" st_law p_law
  x_BadMachine : ExcDef K mg "BadMachine" "BadMachine.__init__" "place" st_ini_BadMachine ["self", "place"]
  x_BadWord : ExcDef0 K mg "BadWord"
  b_all : mg "all" = none
  b_bool : mg "bool" = none
  b_enumerate : mg "enumerate" = none
  b_int : mg "int" = none
  b_isinstance : mg "isinstance" = none
  b_len : mg "len" = none
  b_list : mg "list" = none
  b_max : mg "max" = none
  b_min : mg "min" = none
  b_range : mg "range" = none
  b_tuple : mg "tuple" = none
  t_MOST_TRACKS : Tok
  g_MOST_TRACKS : mg "MOST_TRACKS" = some (.int 4 t_MOST_TRACKS)
  p_POWERS : Addr
  g_POWERS : mg "POWERS" = some (.ref p_POWERS)
  w_POWERS : ∀ H, SqT K H p_POWERS (([1, 2, 4, 8, 16] : List Int).map V.int)
  no10 : PySem.W.exmOne K (.ref x_BadWord.C) (.ref x_BadMachine.C) = some false
/-- the classes of exceptions -/
def Txt.xc {K : PySem.W.Frag} {mg : Str → Option Value} (T : Txt K mg) (c : Nat) : Option (Addr × Option Str) := if c = 0 then some (T.x_BadMachine.C, some "place") else if c = 1 then some (T.x_BadWord.C, none) else none
end K66

/-! K66f: forms; is_machine, is_breaker. -/
namespace K66
open PySem PySem.Spec L2 RZ VC
open PyProof.Rows hiding St

abbrev MRow := List (Nat × Nat)
abbrev BRow := Nat × List Nat
def nI (n : Nat) : D := .int n
def encP (p : Nat × Nat) : D := .tup [.int p.1, .int p.2]
def encR (r : MRow) : D := .tup (r.map encP)
def encM (ins outs : Nat) (S : List MRow) : D := .tup [.str "machine", .int ins, .int outs, .tup (S.map encR)]
def encBR (b : BRow) : D := .tup [.int b.1, .tup (b.2.map nI)]
def encB (ins outs : Nat) (B : List BRow) : D := .tup [.str "breaker", .int ins, .int outs, .tup (B.map encBR)]
structure Sz (ins outs : Nat) : Prop where
  i : ins ≤ 2
  o : outs ≤ 2
  s1 : 1 ≤ ins + outs
  s3 : ins + outs ≤ 3
structure GM (ins outs : Nat) (S : List MRow) : Prop where
  l1 : 1 ≤ S.length
  l4 : S.length ≤ 4
  w : ∀ r ∈ S, r.length = 2 ^ ins
  e : ∀ r ∈ S, ∀ p ∈ r, p.1 < 2 ^ outs ∧ p.2 < S.length
structure GB (ins outs : Nat) (B : List BRow) : Prop where
  l1 : 1 ≤ B.length
  l4 : B.length ≤ 4
  g : ∀ b ∈ B, b.1 < 2 ^ ins
  w : ∀ b ∈ B, b.2.length = 2 ^ outs
  e : ∀ b ∈ B, ∀ x ∈ b.2, x < B.length
theorem pw_le {k : Nat} (h : k ≤ 2) : 2 ^ k ≤ 4 := by
  have : k = 0 ∨ k = 1 ∨ k = 2 := by omega
  rcases this with rfl | rfl | rfl <;> decide
theorem pw_pos (k : Nat) : 1 ≤ 2 ^ k := Nat.one_le_two_pow
theorem shl_nat (a k : Nat) (h : k ≤ 1000) (ha : a < 1000000) : shlD (.int a) (.int k) = some (.int ((a * 2 ^ k : Nat) : Int)) := by
  show (if _ then _ else _) = _
  rw [if_pos (by refine ⟨by omega, by omega, ?_⟩; rw [Int.natAbs_natCast]; exact Nat.lt_trans ha (by decide)), Int.toNat_natCast]
  push_cast
  rfl
theorem shl_one (k : Nat) (h : k ≤ 1000) : shlD (.int 1) (.int k) = some (.int ((2 ^ k : Nat) : Int)) := by
  have := shl_nat 1 k h (by decide)
  rw [Nat.one_mul] at this
  exact this
theorem is_integer_int (v lo hi : Int) : r_is_integer [.int v, .int lo, .int hi] = M.ret (.bl (decide (lo ≤ v) && decide (v ≤ hi))) := by
  simp [r_is_integer, s_is_integer, startE, cmpI]
  by_cases h : lo ≤ v <;> simp [h, cmpI]
theorem is_integer_bl (v : Bool) (lo hi : D) : r_is_integer [.bl v, lo, hi] = M.ret (.bl false) := by
  simp [r_is_integer, s_is_integer, startE]
theorem is_answer_eq (p : Nat × Nat) (outs many : Nat) (ho : outs ≤ 1000) : r_is_answer [encP p, .int outs, .int many] = M.ret (.bl (decide (p.1 < 2 ^ outs) && decide (p.2 < many))) := by
  simp [r_is_answer, s_is_answer, startE, encP, is_integer_int, shl_one outs ho]
  by_cases h1 : p.1 < 2 ^ outs
  · have h1' : (p.1 : Int) ≤ 2 ^ outs - 1 := by
      have : ((2 ^ outs : Nat) : Int) = 2 ^ outs := by push_cast; rfl
      omega
    simp [h1, h1']
    congr 2
    rw [decide_eq_decide]
    omega
  · have h1' : ¬ (p.1 : Int) ≤ 2 ^ outs - 1 := by
      have : ((2 ^ outs : Nat) : Int) = 2 ^ outs := by push_cast; rfl
      omega
    simp [h1, h1']
/-! ### heads -/
theorem head_word {w word : Str} (h : w ≠ word) (a b c : D) : r_has_head [.tup [.str w, a, b, c], .str word] = M.ret (.bl false) := by
  simp [r_has_head, s_has_head, startE, h]
theorem head_non (word : D) : r_has_head [.non, word] = M.ret (.bl false) := by
  simp [r_has_head, s_has_head, startE]
theorem head_bl (word : Str) (b : Bool) (x y : D) : r_has_head [.tup [.str word, .bl b, x, y], .str word] = M.ret (.bl false) := by
  simp [r_has_head, s_has_head, startE, is_integer_bl]
theorem head_lst (word : Str) (i o : Nat) (hi : i ≤ 4) (ho : o ≤ 4) (h1 : 1 ≤ i + o) (h4 : i + o ≤ 4) (xs : List D) : r_has_head [.tup [.str word, .int i, .int o, .lst xs], .str word] = M.ret (.bl false) := by
  have e1 : (i : Int) ≤ 4 := by omega
  have e2 : (o : Int) ≤ 4 := by omega
  have e3 : (1 : Int) ≤ (i : Int) + o := by omega
  have e4 : (i : Int) + o ≤ 4 := by omega
  simp [r_has_head, s_has_head, startE, is_integer_int, e1, e2, e3, e4, cmpI, atI, ixN]
theorem head_tup (word : Str) (i o : Nat) (hi : i ≤ 4) (ho : o ≤ 4) (xs : List D) : r_has_head [.tup [.str word, .int i, .int o, .tup xs], .str word] = M.ret (.bl (decide (1 ≤ i + o ∧ i + o ≤ 4) && decide (0 < xs.length))) := by
  have e1 : (i : Int) ≤ 4 := by omega
  have e2 : (o : Int) ≤ 4 := by omega
  by_cases h1 : 1 ≤ i + o
  · have e3 : (1 : Int) ≤ (i : Int) + o := by omega
    by_cases h4 : i + o ≤ 4
    · have e4 : (i : Int) + o ≤ 4 := by omega
      simp [r_has_head, s_has_head, startE, is_integer_int, e1, e2, e3, e4, h1, h4, cmpI, atI, ixN]
      omega
    · have e4 : ¬ (i : Int) + o ≤ 4 := by omega
      simp [r_has_head, s_has_head, startE, is_integer_int, e1, e2, e3, e4, h1, h4, cmpI, atI, ixN]
  · have e3 : ¬ (1 : Int) ≤ (i : Int) + o := by omega
    simp [r_has_head, s_has_head, startE, is_integer_int, e1, e2, e3, h1, cmpI, atI, ixN]
theorem machine_no {v : D} (h : r_has_head [v, .str "machine"] = M.ret (.bl false)) : r_is_machine [v] = M.ret (.bl false) := by
  simp [r_is_machine, s_is_machine, startE, h]
theorem breaker_no {v : D} (h : r_has_head [v, .str "breaker"] = M.ret (.bl false)) : r_is_breaker [v] = M.ret (.bl false) := by
  simp [r_is_breaker, s_is_breaker, startE, h]
/-! ### machines -/
def okA (outs many : Nat) (p : Nat × Nat) : Bool := decide (p.1 < 2 ^ outs) && decide (p.2 < many)
theorem rows_all (r : MRow) (hl : r.length ≤ 1000) (v x1 x2 x6 : Option D) (outs : Nat) (ho : outs ≤ 1000) (xs : List D) : e_is_machine1 [v, x1, x2, some (.int outs), some (.tup xs), some (encR r), x6] = M.ret (.lst ((r.map (okA outs xs.length)).map D.bl)) := by
  unfold e_is_machine1
  rw [lc_runA encP (fun p => .bl (okA outs xs.length p)) r (by simp [encR]) (Nat.le_trans hl (by decide)) fun p hp => ⟨_, rfl, by simp [is_answer_eq p outs xs.length ho, okA]⟩, List.map_map]
  rfl
theorem row_turn (r : MRow) (hl : r.length ≤ 1000) (v x1 x6 : Option D) (ins outs : Nat) (hi : ins ≤ 1000) (ho : outs ≤ 1000) (xs : List D) :
    b_is_machine2 [v, x1, some (.int ins), some (.int outs), some (.tup xs), some (encR r), x6] = if r.length = 2 ^ ins ∧ r.all (okA outs xs.length) = true then M.ret (.nx [v, x1, some (.int ins), some (.int outs), some (.tup xs), some (encR r), x6]) else M.ret (.rt (.bl false)) := by
  unfold b_is_machine2
  have ha := rows_all r hl v x1 (some (.int ins)) x6 outs ho xs
  unfold encR at ha
  by_cases h1 : r.length = 2 ^ ins
  · have h1' : ((r.length : Nat) : Int) = ((2 ^ ins : Nat) : Int) := by rw [h1]
    by_cases h2 : r.all (okA outs xs.length) = true
    · rw [if_pos ⟨h1, h2⟩]
      simp only [seqS_eq, ifS_eq, orT_eq, notT_eq, valT_eq, isaE_eq, varE_eq, callE_eq, consA_eq, nilA_eq, bin2_eq, cE_eq, ha]
      simp [encR, shl_one ins hi, h1, h2, ha, -List.map_map]
    · rw [if_neg (fun z => h2 z.2)]
      simp only [seqS_eq, ifS_eq, orT_eq, notT_eq, valT_eq, isaE_eq, varE_eq, callE_eq, consA_eq, nilA_eq, bin2_eq, cE_eq, ha]
      simp [encR, shl_one ins hi, h1, h2, ha, -List.map_map]
  · rw [if_neg (fun z => h1 z.1)]
    have h1' : ¬ ((r.length : Nat) : Int) = ((2 ^ ins : Nat) : Int) := by exact_mod_cast h1
    have h1'' : ¬ ((r.length : Nat) : Int) = 2 ^ ins := by exact_mod_cast h1
    simp [encR, shl_one ins hi, h1, h1', h1'']
theorem rows_pass (v x1 x6 : Option D) (ins outs : Nat) (hi : ins ≤ 1000) (ho : outs ≤ 1000) (xs : List D) (es : List D) : ∀ (S : List MRow), (∀ r ∈ S, r.length = 2 ^ ins ∧ r.length ≤ 1000 ∧ r.all (okA outs xs.length) = true) → ∀ x5, ∃ x5',
    forGo [] (nameB 5) b_is_machine2 (S.map encR ++ es) [v, x1, some (.int ins), some (.int outs), some (.tup xs), x5, x6] = forGo [] (nameB 5) b_is_machine2 es [v, x1, some (.int ins), some (.int outs), some (.tup xs), x5', x6]
  | [], _, x5 => ⟨x5, rfl⟩
  | r :: S, h, x5 => by
    obtain ⟨x5', ih⟩ := rows_pass v x1 x6 ins outs hi ho xs es S (fun r hr => h r (List.mem_cons_of_mem _ hr)) (some (encR r))
    obtain ⟨h1, h2, h3⟩ := h r List.mem_cons_self
    refine ⟨x5', ?_⟩
    rw [List.map_cons, List.cons_append, forGo_cons (l := [(5, encR r)]) rfl rfl]
    show M.bnd (b_is_machine2 [v, x1, some (.int ins), some (.int outs), some (.tup xs), some (encR r), x6]) _ = _
    rw [row_turn r h2 _ _ _ ins outs hi ho, if_pos ⟨h1, h3⟩, bnd_ret]
    exact ih
theorem okA_of {ins outs : Nat} {S : List MRow} (h : GM ins outs S) {m : Nat} (hm : S.length ≤ m) {r : MRow} (hr : r ∈ S) : r.all (okA outs m) = true := List.all_eq_true.mpr fun p hp => by
  have := h.e r hr p hp
  unfold okA
  rw [Bool.and_eq_true, decide_eq_true_eq, decide_eq_true_eq]
  omega
theorem machine_start (ins outs : Nat) (hs : Sz ins outs) (xs : List D) (hx : 0 < xs.length) : r_is_machine [.tup [.str "machine", .int ins, .int outs, .tup xs]] = M.bnd (forGo [] (nameB 5) b_is_machine2 xs [some (.tup [.str "machine", .int ins, .int outs, .tup xs]), some (.str "machine"), some (.int ins), some (.int outs), some (.tup xs), none, none]) fun fl => M.bnd (match fl with
    | .nx env => retS (cE (.bl true)) env
    | o => M.ret o) endM := by
  have i := hs.i
  have o := hs.o
  have s1 := hs.s1
  have s3 := hs.s3
  have hd := head_tup "machine" ins outs (by omega) (by omega) xs
  have e : (decide (1 ≤ ins + outs ∧ ins + outs ≤ 4) && decide (0 < xs.length)) = true := by simp; omega
  rw [e] at hd
  simp [r_is_machine, s_is_machine, startE, hd]
  all_goals congr 1
theorem machine_ok {ins outs : Nat} (hs : Sz ins outs) {S : List MRow} (h : GM ins outs S) : r_is_machine [encM ins outs S] = M.ret (.bl true) := by
  unfold encM
  rw [machine_start ins outs hs _ (by rw [List.length_map]; exact h.l1)]
  have hi := pw_le hs.i
  have i := hs.i
  have o := hs.o
  obtain ⟨x5', e⟩ := rows_pass (some (.tup [.str "machine", .int ins, .int outs, .tup (S.map encR)])) (some (.str "machine")) none ins outs (by omega) (by omega) (S.map encR) [] S (fun r hr => ⟨h.w r hr, by rw [h.w r hr]; omega, by rw [List.length_map]; exact okA_of h (Nat.le_refl _) hr⟩) none
  rw [List.append_nil] at e
  rw [e]
  rfl
/-- a bad row behind good ones -/
theorem machine_bad {ins outs : Nat} (hs : Sz ins outs) {S : List MRow} (r : MRow) (es : List MRow) (hg : ∀ r ∈ S, r.length = 2 ^ ins ∧ r.all (okA outs (S.length + (1 + es.length))) = true) (hl : r.length ≤ 1000) (hb : ¬ (r.length = 2 ^ ins ∧ r.all (okA outs (S.length + (1 + es.length))) = true)) :
    r_is_machine [encM ins outs (S ++ r :: es)] = M.ret (.bl false) := by
  unfold encM
  rw [machine_start ins outs hs _ (by rw [List.length_map, List.length_append, List.length_cons]; omega)]
  have hi := pw_le hs.i
  have i := hs.i
  have o := hs.o
  have hlen : ((S ++ r :: es).map encR).length = S.length + (1 + es.length) := by simp; omega
  obtain ⟨x5', e⟩ := rows_pass (some (.tup [.str "machine", .int ins, .int outs, .tup ((S ++ r :: es).map encR)])) (some (.str "machine")) none ins outs (by omega) (by omega) ((S ++ r :: es).map encR) ((r :: es).map encR) S (fun r hr => ⟨(hg r hr).1, by rw [(hg r hr).1]; omega, by rw [hlen]; exact (hg r hr).2⟩) none
  rw [← List.map_append] at e
  rw [e, List.map_cons, forGo_cons (l := [(5, encR r)]) rfl rfl]
  have ht := row_turn r hl (some (.tup [.str "machine", .int ins, .int outs, .tup ((S ++ r :: es).map encR)])) (some (.str "machine")) none ins outs (by omega) (by omega) ((S ++ r :: es).map encR)
  rw [hlen, if_neg hb] at ht
  show M.bnd (M.bnd (b_is_machine2 [some (.tup [.str "machine", .int ins, .int outs, .tup ((S ++ r :: es).map encR)]), some (.str "machine"), some (.int ins), some (.int outs), some (.tup ((S ++ r :: es).map encR)), some (encR r), none]) _) _ = _
  rw [ht]
  rfl
/-! ### breakers -/
theorem brow_all (b : BRow) (hl : b.2.length ≤ 1000) (v x1 x2 x3 x6 : Option D) (xs : List D) : e_is_breaker1 [v, x1, x2, x3, some (.tup xs), some (encBR b), x6] = M.ret (.lst ((b.2.map fun x => decide (x < xs.length)).map D.bl)) := by
  unfold e_is_breaker1
  rw [lc_runA nI (fun x => .bl (decide (x < xs.length))) b.2 (by simp [encBR]) (Nat.le_trans hl (by decide)) fun p hp => ⟨_, rfl, by
    simp [is_integer_int, nI]
    congr 2
    rw [decide_eq_decide]
    omega⟩, List.map_map]
  rfl
def okB (ins outs many : Nat) (b : BRow) : Bool := decide (b.1 < 2 ^ ins) && (decide (b.2.length = 2 ^ outs) && b.2.all fun x => decide (x < many))
theorem brow_turn (b : BRow) (hl : b.2.length ≤ 1000) (v x1 x6 : Option D) (ins outs : Nat) (hi : ins ≤ 1000) (ho : outs ≤ 1000) (xs : List D) :
    b_is_breaker2 [v, x1, some (.int ins), some (.int outs), some (.tup xs), some (encBR b), x6] = if okB ins outs xs.length b = true then M.ret (.nx [v, x1, some (.int ins), some (.int outs), some (.tup xs), some (encBR b), x6]) else M.ret (.rt (.bl false)) := by
  unfold b_is_breaker2 okB
  have ha := brow_all b hl v x1 (some (.int ins)) (some (.int outs)) x6 xs
  unfold encBR at ha
  have h0 : (b.1 < 2 ^ ins) ↔ ((b.1 : Int) ≤ ((2 ^ ins : Nat) : Int) - 1) := by omega
  have h0' : ((2 ^ ins : Nat) : Int) = 2 ^ ins := by push_cast; rfl
  by_cases g1 : b.1 < 2 ^ ins
  · have g1' := h0.mp g1
    rw [h0'] at g1'
    by_cases g2 : b.2.length = 2 ^ outs
    · by_cases g3 : (b.2.all fun x => decide (x < xs.length)) = true
      · simp only [seqS_eq, ifS_eq, orT_eq, notT_eq, valT_eq, isaE_eq, varE_eq, callE_eq, consA_eq, nilA_eq, bin2_eq, cE_eq, fnE_eq, ha]
        simp [encBR, shl_one ins hi, shl_one outs ho, is_integer_int, g1, g1', g2, g3, ha, -List.map_map]
      · simp only [seqS_eq, ifS_eq, orT_eq, notT_eq, valT_eq, isaE_eq, varE_eq, callE_eq, consA_eq, nilA_eq, bin2_eq, cE_eq, fnE_eq, ha]
        simp [encBR, shl_one ins hi, shl_one outs ho, is_integer_int, g1, g1', g2, g3, ha, -List.map_map]
    · have g2' : ¬ ((b.2.length : Nat) : Int) = 2 ^ outs := by exact_mod_cast g2
      simp [encBR, shl_one ins hi, shl_one outs ho, is_integer_int, g1, g1', g2, g2']
  · have g1' : ¬ ((b.1 : Int) ≤ ((2 ^ ins : Nat) : Int) - 1) := fun z => g1 (h0.mpr z)
    rw [h0'] at g1'
    simp [encBR, shl_one ins hi, shl_one outs ho, is_integer_int, g1, g1']
    try exact fun z => absurd z g1'
theorem brows_pass (v x1 x6 : Option D) (ins outs : Nat) (hi : ins ≤ 1000) (ho : outs ≤ 1000) (xs : List D) (es : List D) : ∀ (S : List BRow), (∀ b ∈ S, b.2.length ≤ 1000 ∧ okB ins outs xs.length b = true) → ∀ x5, ∃ x5',
    forGo [] (nameB 5) b_is_breaker2 (S.map encBR ++ es) [v, x1, some (.int ins), some (.int outs), some (.tup xs), x5, x6] = forGo [] (nameB 5) b_is_breaker2 es [v, x1, some (.int ins), some (.int outs), some (.tup xs), x5', x6]
  | [], _, x5 => ⟨x5, rfl⟩
  | r :: S, h, x5 => by
    obtain ⟨x5', ih⟩ := brows_pass v x1 x6 ins outs hi ho xs es S (fun r hr => h r (List.mem_cons_of_mem _ hr)) (some (encBR r))
    obtain ⟨h2, h3⟩ := h r List.mem_cons_self
    refine ⟨x5', ?_⟩
    rw [List.map_cons, List.cons_append, forGo_cons (l := [(5, encBR r)]) rfl rfl]
    show M.bnd (b_is_breaker2 [v, x1, some (.int ins), some (.int outs), some (.tup xs), some (encBR r), x6]) _ = _
    rw [brow_turn r h2 _ _ _ ins outs hi ho, if_pos h3, bnd_ret]
    exact ih
theorem okB_of {ins outs : Nat} {B : List BRow} (h : GB ins outs B) {m : Nat} (hm : B.length ≤ m) {b : BRow} (hb : b ∈ B) : okB ins outs m b = true := by
  have h1 := h.g b hb
  have h2 := h.w b hb
  have h3 : (b.2.all fun x => decide (x < m)) = true := List.all_eq_true.mpr fun x hx => by
    have := h.e b hb x hx
    rw [decide_eq_true_eq]
    omega
  unfold okB
  rw [h3]
  simp [h1, h2]
theorem breaker_start (ins outs : Nat) (hs : Sz ins outs) (xs : List D) (hx : 0 < xs.length) : r_is_breaker [.tup [.str "breaker", .int ins, .int outs, .tup xs]] = M.bnd (forGo [] (nameB 5) b_is_breaker2 xs [some (.tup [.str "breaker", .int ins, .int outs, .tup xs]), some (.str "breaker"), some (.int ins), some (.int outs), some (.tup xs), none, none]) fun fl => M.bnd (match fl with
    | .nx env => retS (cE (.bl true)) env
    | o => M.ret o) endM := by
  have i := hs.i
  have o := hs.o
  have s1 := hs.s1
  have s3 := hs.s3
  have hd := head_tup "breaker" ins outs (by omega) (by omega) xs
  have e : (decide (1 ≤ ins + outs ∧ ins + outs ≤ 4) && decide (0 < xs.length)) = true := by simp; omega
  rw [e] at hd
  simp [r_is_breaker, s_is_breaker, startE, hd]
  all_goals congr 1
theorem breaker_ok {ins outs : Nat} (hs : Sz ins outs) {B : List BRow} (h : GB ins outs B) : r_is_breaker [encB ins outs B] = M.ret (.bl true) := by
  unfold encB
  rw [breaker_start ins outs hs _ (by rw [List.length_map]; exact h.l1)]
  have ho := pw_le hs.o
  have i := hs.i
  have o := hs.o
  obtain ⟨x5', e⟩ := brows_pass (some (.tup [.str "breaker", .int ins, .int outs, .tup (B.map encBR)])) (some (.str "breaker")) none ins outs (by omega) (by omega) (B.map encBR) [] B (fun r hr => ⟨by rw [h.w r hr]; omega, by rw [List.length_map]; exact okB_of h (Nat.le_refl _) hr⟩) none
  rw [List.append_nil] at e
  rw [e]
  rfl
theorem breaker_bad {ins outs : Nat} (hs : Sz ins outs) {B : List BRow} (h : GB ins outs B) (b : BRow) (hl : b.2.length ≤ 1000) (hb : ¬ b.1 < 2 ^ ins) : r_is_breaker [encB ins outs (B ++ [b])] = M.ret (.bl false) := by
  unfold encB
  rw [breaker_start ins outs hs _ (by simp)]
  have ho := pw_le hs.o
  have i := hs.i
  have o := hs.o
  have hlen : ((B ++ [b]).map encBR).length = B.length + 1 := by simp
  obtain ⟨x5', e⟩ := brows_pass (some (.tup [.str "breaker", .int ins, .int outs, .tup ((B ++ [b]).map encBR)])) (some (.str "breaker")) none ins outs (by omega) (by omega) ((B ++ [b]).map encBR) ([b].map encBR) B (fun r hr => ⟨by rw [h.w r hr]; omega, by rw [hlen]; exact okB_of h (by omega) hr⟩) none
  rw [← List.map_append] at e
  rw [e, List.map_cons, forGo_cons (l := [(5, encBR b)]) rfl rfl]
  have ht := brow_turn b hl (some (.tup [.str "breaker", .int ins, .int outs, .tup ((B ++ [b]).map encBR)])) (some (.str "breaker")) none ins outs (by omega) (by omega) ((B ++ [b]).map encBR)
  rw [if_neg (by unfold okB; simp [hb])] at ht
  show M.bnd (M.bnd (b_is_breaker2 [some (.tup [.str "breaker", .int ins, .int outs, .tup ((B ++ [b]).map encBR)]), some (.str "breaker"), some (.int ins), some (.int outs), some (.tup ((B ++ [b]).map encBR)), some (encBR b), none]) _) _ = _
  rw [ht]
  rfl
theorem breaker_machine (ins outs : Nat) (S : List MRow) : r_is_breaker [encM ins outs S] = M.ret (.bl false) := breaker_no (head_word (by decide) _ _ _)
theorem machine_breaker (ins outs : Nat) (B : List BRow) : r_is_machine [encB ins outs B] = M.ret (.bl false) := machine_no (head_word (by decide) _ _ _)
end K66

/-! K66g: a step along a device; letters_of, place_behind, _law_next, _law_follows. -/
namespace K66
open PySem PySem.Spec L2 RZ VC
open PyProof.Rows hiding St

@[simp] theorem eqVD_ss (i j : Str) : eqVD (.str i) (.str j) = some (.bl (decide (i = j))) := eqVD_pl rfl rfl (Nat.zero_le _) _ (by simp)
inductive Dev
  | m (S : List MRow)
  | b (B : List BRow)
def Dev.enc (ins outs : Nat) : Dev → D
  | .m S => encM ins outs S
  | .b B => encB ins outs B
def Dev.len : Dev → Nat
  | .m S => S.length
  | .b B => B.length
def Dev.Ok (ins outs : Nat) : Dev → Prop
  | .m S => GM ins outs S
  | .b B => GB ins outs B
def stepM (ins : Nat) (S : List MRow) (place letter : Nat) : Option Nat := (S[place]?.bind fun r => r[letter % 2 ^ ins]?).bind fun q => if q.1 = letter / 2 ^ ins then some q.2 else none
def stepB (ins : Nat) (B : List BRow) (place letter : Nat) : Option Nat := B[place]?.bind fun b => if b.1 = letter % 2 ^ ins then b.2[letter / 2 ^ ins]? else none
def Dev.step (ins : Nat) : Dev → Nat → Nat → Option Nat
  | .m S => stepM ins S
  | .b B => stepB ins B
def Dev.go (ins : Nat) (d : Dev) : Option Nat → List Nat → Option Nat
  | p, [] => p
  | none, _ :: _ => none
  | some p, l :: ls => d.go ins (d.step ins p l) ls
def optD : Option Nat → D
  | none => .non
  | some p => .int p
theorem Dev.go_none (ins : Nat) (d : Dev) : ∀ ls, d.go ins none ls = none
  | [] => rfl
  | _ :: _ => rfl
theorem Dev.go_append (ins : Nat) (d : Dev) : ∀ (ls ms : List Nat) (p : Option Nat), d.go ins p (ls ++ ms) = d.go ins (d.go ins p ls) ms
  | [], ms, p => rfl
  | l :: ls, ms, none => by
    show none = d.go ins none ms
    rw [Dev.go_none]
  | l :: ls, ms, some p => Dev.go_append ins d ls ms _
theorem step_lt {ins outs : Nat} {d : Dev} (h : d.Ok ins outs) {p l q : Nat} (e : d.step ins p l = some q) : q < d.len := by
  cases d with
  | m S =>
    obtain ⟨⟨a, t⟩, h1, h2⟩ := Option.bind_eq_some_iff.mp e
    obtain ⟨r, hr, h3⟩ := Option.bind_eq_some_iff.mp h1
    simp only at h2
    split at h2
    · cases h2
      exact ((h : GM ins outs S).e r (List.mem_of_getElem? hr) _ (List.mem_of_getElem? h3)).2
    · cases h2
  | b B =>
    obtain ⟨b, hb, h2⟩ := Option.bind_eq_some_iff.mp e
    split at h2
    · exact (h : GB ins outs B).e b (List.mem_of_getElem? hb) _ (List.mem_of_getElem? h2)
    · cases h2
theorem go_lt {ins outs : Nat} {d : Dev} (h : d.Ok ins outs) : ∀ (ls : List Nat) (p q : Nat), p < d.len → d.go ins (some p) ls = some q → q < d.len
  | [], p, q, hp, e => by cases e; exact hp
  | l :: ls, p, q, hp, e => by
    have e : d.go ins (d.step ins p l) ls = some q := e
    cases hs : d.step ins p l with
    | none => rw [hs, Dev.go_none] at e; cases e
    | some p' =>
      rw [hs] at e
      exact go_lt h ls p' q (step_lt h hs) e
/-! ### the letters of a state -/
def ix {α : Type} : Nat → List α → List (Nat × α)
  | _, [] => []
  | k, x :: xs => (k, x) :: ix (k + 1) xs
theorem ix_length {α : Type} : ∀ (xs : List α) (k : Nat), (ix k xs).length = xs.length
  | [], _ => rfl
  | x :: xs, k => by simp [ix, ix_length xs]
theorem enumD_map {α : Type} (e : α → D) : ∀ (xs : List α) (k : Nat), enumD k (xs.map e) = (ix k xs).map fun q => .tup [.int (q.1 : Int), e q.2]
  | [], _ => rfl
  | x :: xs, k => by simp [ix, enumD, enumD_map e xs]
theorem ix_filter {α : Type} (j : Nat) (P : α → Bool) : ∀ (xs : List α) (k : Nat), (ix k xs).filter (fun q => decide (q.1 = j) && P q.2) = if j < k then [] else (match xs[j - k]? with
  | some x => if P x = true then [(j, x)] else []
  | none => [])
  | [], k => by simp [ix]
  | x :: xs, k => by
    unfold ix
    rw [List.filter_cons, ix_filter j P xs (k + 1)]
    by_cases h1 : j < k
    · rw [if_pos h1, if_pos (show j < k + 1 by omega)]
      have : ¬ k = j := by omega
      simp [this]
    · by_cases h2 : j = k
      · subst h2
        simp
      · have h3 : ¬ j < k + 1 := by omega
        have h4 : ¬ k = j := by omega
        rw [if_neg h1, if_neg h3]
        have : j - k = (j - (k + 1)) + 1 := by omega
        rw [this]
        simp [h4]
def lets (ins : Nat) : Dev → Nat → List (Nat × Nat)
  | .m S, p => match S[p]? with
    | some r => (ix 0 r).map fun q => (q.1 + q.2.1 * 2 ^ ins, q.2.2)
    | none => []
  | .b B, p => match B[p]? with
    | some b => (ix 0 b.2).map fun q => (b.1 + q.1 * 2 ^ ins, q.2)
    | none => []
theorem lets_m {ins : Nat} {S : List MRow} {p : Nat} {r : MRow} (e : S[p]? = some r) : lets ins (.m S) p = (ix 0 r).map fun q => (q.1 + q.2.1 * 2 ^ ins, q.2.2) := by
  show (match S[p]? with | some r => _ | none => _) = _
  rw [e]
theorem lets_b {ins : Nat} {B : List BRow} {p : Nat} {b : BRow} (e : B[p]? = some b) : lets ins (.b B) p = (ix 0 b.2).map fun q => (b.1 + q.1 * 2 ^ ins, q.2) := by
  show (match B[p]? with | some b => _ | none => _) = _
  rw [e]
theorem div_mod_iff {k a l m : Nat} (hk : k < m) : k + a * m = l ↔ k = l % m ∧ a = l / m := by
  constructor
  · rintro rfl
    have hm : 0 < m := by omega
    refine ⟨?_, ?_⟩
    · rw [Nat.add_mul_mod_self_right, Nat.mod_eq_of_lt hk]
    · rw [Nat.add_mul_div_right _ _ hm, Nat.div_eq_of_lt hk, Nat.zero_add]
  · rintro ⟨rfl, rfl⟩
    rw [Nat.mul_comm]
    exact Nat.mod_add_div l m
theorem ix_mem {α : Type} : ∀ {xs : List α} {k : Nat} {q : Nat × α}, q ∈ ix k xs → k ≤ q.1 ∧ xs[q.1 - k]? = some q.2
  | [], _, _, h => by cases h
  | x :: xs, k, q, h => by
    unfold ix at h
    rcases List.mem_cons.mp h with rfl | h
    · simp
    · obtain ⟨h1, h2⟩ := ix_mem h
      refine ⟨by omega, ?_⟩
      have : q.1 - k = (q.1 - (k + 1)) + 1 := by omega
      rw [this]
      simpa using h2
theorem lets_step {ins outs : Nat} {d : Dev} (h : d.Ok ins outs) {p : Nat} (hp : p < d.len) (l : Nat) : ((lets ins d p).filter fun q => decide (q.1 = l)).map (·.2) = (d.step ins p l).toList := by
  cases d with
  | m S =>
    have hp : p < S.length := hp
    have e := List.getElem?_eq_getElem hp
    have hr := List.getElem_mem hp
    rw [lets_m e]
    show _ = (stepM ins S p l).toList
    unfold stepM
    rw [e]
    generalize S[p] = r at hr
    have hw := (h : GM ins outs S).w r hr
    rw [List.filter_map, List.map_map]
    have hf : (ix 0 r).filter ((fun q : Nat × Nat => decide (q.1 = l)) ∘ fun q : Nat × (Nat × Nat) => (q.1 + q.2.1 * 2 ^ ins, q.2.2)) = (ix 0 r).filter fun q => decide (q.1 = l % 2 ^ ins) && decide (q.2.1 = l / 2 ^ ins) := by
      refine List.filter_congr fun q hq => ?_
      obtain ⟨_, h2⟩ := ix_mem hq
      obtain ⟨h3, _⟩ := List.getElem?_eq_some_iff.mp h2
      have h4 : q.1 < 2 ^ ins := by omega
      rw [← Bool.decide_and, Function.comp, decide_eq_decide]
      exact div_mod_iff h4
    rw [hf, ix_filter (l % 2 ^ ins) (fun x : Nat × Nat => decide (x.1 = l / 2 ^ ins)) r 0, if_neg (Nat.not_lt_zero _), Nat.sub_zero]
    show _ = ((r[l % 2 ^ ins]?).bind _).toList
    cases hx : r[l % 2 ^ ins]? with
    | none => rfl
    | some x =>
      simp only [decide_eq_true_eq, Option.bind_some]
      by_cases hy : x.1 = l / 2 ^ ins <;> simp [hy]
  | b B =>
    have hp : p < B.length := hp
    have e := List.getElem?_eq_getElem hp
    have hr := List.getElem_mem hp
    rw [lets_b e]
    show _ = (stepB ins B p l).toList
    unfold stepB
    rw [e]
    generalize B[p] = b at hr
    have hg := (h : GB ins outs B).g b hr
    rw [List.filter_map, List.map_map]
    have hf : (ix 0 b.2).filter ((fun q : Nat × Nat => decide (q.1 = l)) ∘ fun q : Nat × Nat => (b.1 + q.1 * 2 ^ ins, q.2)) = (ix 0 b.2).filter fun q => decide (q.1 = l / 2 ^ ins) && decide (b.1 = l % 2 ^ ins) := by
      refine List.filter_congr fun q hq => ?_
      rw [← Bool.decide_and, Function.comp, decide_eq_decide]
      rw [and_comm]
      exact div_mod_iff hg
    rw [hf, ix_filter (l / 2 ^ ins) (fun x : Nat => decide (b.1 = l % 2 ^ ins)) b.2 0, if_neg (Nat.not_lt_zero _), Nat.sub_zero]
    show _ = (if b.1 = l % 2 ^ ins then b.2[l / 2 ^ ins]? else none).toList
    cases hx : b.2[l / 2 ^ ins]? with
    | none => simp
    | some x =>
      simp only [decide_eq_true_eq]
      by_cases hy : b.1 = l % 2 ^ ins <;> simp [hy]
theorem lets_len {ins outs : Nat} {d : Dev} (h : d.Ok ins outs) (hs : Sz ins outs) (p : Nat) : (lets ins d p).length ≤ 4 := by
  have hi := pw_le hs.i
  have ho := pw_le hs.o
  unfold lets
  split
  · split
    · rename_i r hr
      rw [List.length_map, ix_length, (show GM ins outs _ from h).w r (List.mem_of_getElem? hr)]
      exact hi
    · exact Nat.zero_le _
  · split
    · rename_i b hb
      rw [List.length_map, ix_length, (show GB ins outs _ from h).w b (List.mem_of_getElem? hb)]
      exact ho
    · exact Nat.zero_le _
theorem letters_eq {ins outs : Nat} (hs : Sz ins outs) {d : Dev} (h : d.Ok ins outs) {p : Nat} (hp : p < d.len) : r_letters_of [d.enc ins outs, .int p] = M.ret (.lst ((lets ins d p).map encP)) := by
  have i2 := hs.i
  have o2 := hs.o
  have hi := pw_le hs.i
  have ho := pw_le hs.o
  cases d with
  | m S =>
    have hp : p < S.length := hp
    have e := List.getElem?_eq_getElem hp
    have hr := List.getElem_mem hp
    have hx : e_letters_of1 [some (encM ins outs S), some (.int p), some (.str "machine"), some (.int ins), some (.int outs), some (.tup (S.map encR)), none, none, none, none] = M.ret (.lst ((lets ins (.m S) p).map encP)) := by
      generalize S[p] = r at hr e
      unfold e_letters_of1
      rw [lets_m e]
      have hw := (h : GM ins outs S).w r hr
      rw [lc_runA (fun q : Nat × (Nat × Nat) => .tup [.int q.1, encP q.2]) (fun q => encP (q.1 + q.2.1 * 2 ^ ins, q.2.2)) (ix 0 r) (by
        simp [e, encR, VC.atI_nat, enumD_map]) (by rw [ix_length, hw]; exact Nat.le_trans hi (by decide)) fun q hq => ⟨[(6, .int q.1), (8, .int q.2.1), (9, .int q.2.2)], rfl, by
        have hq2 := List.mem_of_getElem? (ix_mem hq).2
        have := ((h : GM ins outs S).e r hr _ hq2).1
        have hs2 := shl_nat q.2.1 ins (by omega) (by omega)
        simp [hs2, encP]⟩]
      rw [List.map_map]
      rfl
    simp [Dev.enc, r_letters_of, s_letters_of, startE, encM] at hx ⊢
    simp [hx]
  | b B =>
    have hp : p < B.length := hp
    have e := List.getElem?_eq_getElem hp
    have hr := List.getElem_mem hp
    have hx : ∀ b : BRow, B[p]? = some b → e_letters_of2 [some (encB ins outs B), some (.int p), some (.str "breaker"), some (.int ins), some (.int outs), some (.tup (B.map encBR)), some (.int b.1), some (.tup (b.2.map nI)), none, none] = M.ret (.lst ((lets ins (.b B) p).map encP)) := fun b eb => by
      unfold e_letters_of2
      rw [lets_b eb]
      have hw := (h : GB ins outs B).w b (List.mem_of_getElem? eb)
      rw [lc_runA (fun q : Nat × Nat => .tup [.int q.1, nI q.2]) (fun q => encP (b.1 + q.1 * 2 ^ ins, q.2)) (ix 0 b.2) (by
        simp [enumD_map]) (by rw [ix_length, hw]; exact Nat.le_trans ho (by decide)) fun q hq => ⟨[(8, .int q.1), (9, .int q.2)], rfl, by
        have h2 := (List.getElem?_eq_some_iff.mp (ix_mem hq).2).1
        have hs2 := shl_nat q.1 ins (by omega) (by omega)
        simp [hs2, encP]⟩]
      rw [List.map_map]
      rfl
    have hx := hx _ e
    have ep : atI (B.map encBR) (p : Int) = some (encBR B[p]) := by rw [VC.atI_nat, List.getElem?_map, e]; rfl
    have hne : ¬ (("breaker" : Str) = "machine") := by decide
    simp [Dev.enc, r_letters_of, s_letters_of, startE, encB, ep, hne] at hx ⊢
    simp [encBR, hx]
end K66

/-! K66h: place_behind, _law_next, _law_follows, is_word, follows. -/
namespace K66
open PySem PySem.Spec L2 RZ VC
open PyProof.Rows hiding St

theorem found_eq {ins outs : Nat} (hs : Sz ins outs) {d : Dev} (h : d.Ok ins outs) {p : Nat} (hp : p < d.len) (l : Nat) (w : Option D) (x4 x5 x6 : Option D) :
    e_place_behind1 [some (d.enc ins outs), some (.int p), w, some (nI l), x4, x5, x6] = M.ret (.lst ((d.step ins p l).toList.map nI)) := by
  unfold e_place_behind1
  have hl := letters_eq hs h hp
  rw [lc_run encP (fun q => decide (q.1 = l)) (fun q => nI q.2) (lets ins d p) (by simp [hl]) (Nat.le_trans (lets_len h hs p) (by decide)) fun q hq => ⟨[(5, .int q.1), (6, .int q.2)], rfl, by
    simp [nI]
    congr 1
    rw [decide_eq_decide]
    omega, fun _ => rfl⟩]
  rw [← lets_step h hp l, List.map_map]
  rfl
theorem place_turn {ins outs : Nat} (hs : Sz ins outs) {d : Dev} (h : d.Ok ins outs) {p : Nat} (hp : p < d.len) (l : Nat) (w : Option D) (x4 x5 x6 : Option D) :
    b_place_behind2 [some (d.enc ins outs), some (.int p), w, some (nI l), x4, x5, x6] = M.ret (match d.step ins p l with
      | none => Fl.rt .non
      | some q => Fl.nx [some (d.enc ins outs), some (.int q), w, some (nI l), some (.lst [nI q]), x5, x6]) := by
  unfold b_place_behind2
  have hf := found_eq hs h hp l w x4 x5 x6
  cases hq : d.step ins p l with
  | none =>
    rw [hq] at hf
    simp [hf]
  | some q =>
    rw [hq] at hf
    simp only [nI, Option.toList_some, List.map_cons, List.map_nil] at hf ⊢
    simp [hf]
theorem place_loop {ins outs : Nat} (hs : Sz ins outs) {d : Dev} (h : d.Ok ins outs) (w : Option D) (x5 x6 : Option D) : ∀ (ws : List Nat) (p : Nat), p < d.len → ∀ x3 x4, ∃ x3' x4',
    forGo [] (nameB 3) b_place_behind2 (ws.map nI) [some (d.enc ins outs), some (.int p), w, x3, x4, x5, x6] = M.ret (match d.go ins (some p) ws with
      | none => Fl.rt .non
      | some q => Fl.nx [some (d.enc ins outs), some (.int q), w, x3', x4', x5, x6])
  | [], p, _, x3, x4 => ⟨x3, x4, rfl⟩
  | l :: ws, p, hp, x3, x4 => by
    rw [List.map_cons, forGo_cons (l := [(3, nI l)]) rfl rfl]
    have ht := place_turn hs h hp l w x4 x5 x6
    show ∃ x3' x4', M.bnd (b_place_behind2 [some (d.enc ins outs), some (.int p), w, some (nI l), x4, x5, x6]) _ = M.ret (match d.go ins (d.step ins p l) ws with
      | none => Fl.rt .non
      | some q => Fl.nx [some (d.enc ins outs), some (.int q), w, x3', x4', x5, x6])
    rw [ht, bnd_ret]
    cases hq : d.step ins p l with
    | none =>
      rw [Dev.go_none]
      exact ⟨none, none, rfl⟩
    | some q => exact place_loop hs h w x5 x6 ws q (step_lt h hq) (some (nI l)) (some (.lst [nI q]))
theorem place_behind_eq {ins outs : Nat} (hs : Sz ins outs) {d : Dev} (h : d.Ok ins outs) (ws : List Nat) {p : Nat} (hp : p < d.len) : r_place_behind [d.enc ins outs, .int p, .tup (ws.map nI)] = M.ret (optD (d.go ins (some p) ws)) := by
  obtain ⟨x3, x4, hl⟩ := place_loop hs h (some (.tup (ws.map nI))) none none ws p hp none none
  simp [r_place_behind, s_place_behind, startE, hl]
  cases d.go ins (some p) ws <;> rfl
/-! ### the law's own way -/
theorem band_nat (l k : Nat) : bandD (.int l) (.int ((2 ^ k : Nat) - 1 : Int)) = some (.int ((l % 2 ^ k : Nat) : Int)) := by
  have hp := pw_pos k
  have e : ((2 ^ k : Nat) : Int) - 1 = ((2 ^ k - 1 : Nat) : Int) := by omega
  rw [e]
  show some (D.int (Builtin.bitAnd _ _)) = _
  unfold Builtin.bitAnd
  rw [decide_eq_true (by omega : (0 : Int) ≤ (l : Int)), decide_eq_true (by omega : (0 : Int) ≤ ((2 ^ k - 1 : Nat) : Int))]
  simp only [Int.toNat_natCast]
  rw [Nat.and_two_pow_sub_one_eq_mod]
theorem shr_nat (l k : Nat) : shrD (.int l) (.int k) = some (.int ((l / 2 ^ k : Nat) : Int)) := by
  show (if (0 : Int) ≤ (k : Int) then some (D.int ((l : Int) / 2 ^ (k : Int).toNat)) else none) = _
  rw [if_pos (by omega), Int.toNat_natCast]
  push_cast
  rfl
theorem law_next_eq {ins outs : Nat} (hs : Sz ins outs) {d : Dev} (h : d.Ok ins outs) {p l : Nat} (hp : p < d.len) (hl : l < 2 ^ (ins + outs)) : r__law_next [d.enc ins outs, .int p, .int l] = M.ret (optD (d.step ins p l)) := by
  have i2 := hs.i
  have hb := band_nat l ins
  have hsh := shr_nat l ins
  have h1 := shl_one ins (by omega)
  have hgiven : l % 2 ^ ins < 2 ^ ins := Nat.mod_lt _ (pw_pos ins)
  have hans : l / 2 ^ ins < 2 ^ outs := by
    rw [Nat.div_lt_iff_lt_mul (pw_pos ins), Nat.mul_comm, ← Nat.pow_add]
    exact hl
  cases d with
  | m S =>
    have hp : p < S.length := hp
    have e := List.getElem?_eq_getElem hp
    have hr := List.getElem_mem hp
    show _ = M.ret (optD (stepM ins S p l))
    unfold stepM
    rw [e]
    have ep : atI (S.map encR) (p : Int) = some (encR S[p]) := by rw [VC.atI_nat, List.getElem?_map, e]; rfl
    generalize S[p] = r at hr ep
    have hw := (h : GM ins outs S).w r hr
    have eq := List.getElem?_eq_getElem (show l % 2 ^ ins < r.length by omega)
    have er : atI (r.map encP) ((l % 2 ^ ins : Nat) : Int) = some (encP (r[l % 2 ^ ins]'(by omega))) := by rw [VC.atI_nat, List.getElem?_map, eq]; rfl
    show _ = M.ret (optD ((r[l % 2 ^ ins]?).bind _))
    rw [eq]
    generalize r[l % 2 ^ ins]'(by omega) = q at er
    push_cast at hb h1 hsh er
    by_cases hq : q.1 = l / 2 ^ ins
    · have hq' : (q.1 : Int) = ((l / 2 ^ ins : Nat) : Int) := by rw [hq]
      push_cast at hq'
      simp [r__law_next, s__law_next, startE, Dev.enc, encM, hb, hsh, h1, ep, encR, er, encP, hq, hq', optD]
    · have hq' : ¬ (q.1 : Int) = ((l / 2 ^ ins : Nat) : Int) := by exact_mod_cast hq
      push_cast at hq'
      simp [r__law_next, s__law_next, startE, Dev.enc, encM, hb, hsh, h1, ep, encR, er, encP, hq, hq', optD]
  | b B =>
    have hp : p < B.length := hp
    have e := List.getElem?_eq_getElem hp
    have hr := List.getElem_mem hp
    show _ = M.ret (optD (stepB ins B p l))
    unfold stepB
    rw [e]
    have ep : atI (B.map encBR) (p : Int) = some (encBR B[p]) := by rw [VC.atI_nat, List.getElem?_map, e]; rfl
    generalize B[p] = b at hr ep
    have hw := (h : GB ins outs B).w b hr
    have eq := List.getElem?_eq_getElem (show l / 2 ^ ins < b.2.length by omega)
    have er : atI (b.2.map nI) ((l / 2 ^ ins : Nat) : Int) = some (nI (b.2[l / 2 ^ ins]'(by omega))) := by rw [VC.atI_nat, List.getElem?_map, eq]; rfl
    show _ = M.ret (optD (if b.1 = l % 2 ^ ins then b.2[l / 2 ^ ins]? else none))
    rw [eq]
    generalize b.2[l / 2 ^ ins]'(by omega) = q at er
    have hne : ¬ (("breaker" : Str) = "machine") := by decide
    push_cast at hb h1 hsh er
    by_cases hq : b.1 = l % 2 ^ ins
    · have hq' : (b.1 : Int) = ((l % 2 ^ ins : Nat) : Int) := by rw [hq]
      push_cast at hq'
      simp [r__law_next, s__law_next, startE, Dev.enc, encB, hb, hsh, h1, ep, encBR, er, hq, hq', optD, hne, nI]
    · have hq' : ¬ (b.1 : Int) = ((l % 2 ^ ins : Nat) : Int) := by exact_mod_cast hq
      push_cast at hq'
      simp [r__law_next, s__law_next, startE, Dev.enc, encB, hb, hsh, h1, ep, encBR, er, hq, hq', optD, hne, nI]
theorem law_loop {ins outs : Nat} (hs : Sz ins outs) {d : Dev} (h : d.Ok ins outs) (w : Option D) : ∀ (ws : List Nat), (∀ l ∈ ws, l < 2 ^ (ins + outs)) → ∀ (p : Option Nat), (∀ q, p = some q → q < d.len) → ∀ x3, ∃ x3',
    forGo [] (nameB 3) b_law_follows1 (ws.map nI) [some (d.enc ins outs), w, some (optD p), x3] = M.ret (.nx [some (d.enc ins outs), w, some (optD (d.go ins p ws)), x3'])
  | [], _, p, _, x3 => ⟨x3, by cases p <;> rfl⟩
  | l :: ws, hl, p, hp, x3 => by
    rw [List.map_cons, forGo_cons (l := [(3, nI l)]) rfl rfl]
    show ∃ x3', M.bnd (b_law_follows1 [some (d.enc ins outs), w, some (optD p), some (nI l)]) _ = _
    cases p with
    | none =>
      have : b_law_follows1 [some (d.enc ins outs), w, some (optD none), some (nI l)] = M.ret (.nx [some (d.enc ins outs), w, some (optD none), some (nI l)]) := by
        unfold b_law_follows1
        simp [optD]
      rw [this, bnd_ret]
      obtain ⟨x, hx⟩ := law_loop hs h w ws (fun l hm => hl l (List.mem_cons_of_mem _ hm)) none (fun _ z => by cases z) (some (nI l))
      rw [Dev.go_none] at hx ⊢
      exact ⟨x, hx⟩
    | some q =>
      have hn := law_next_eq hs h (hp q rfl) (hl l List.mem_cons_self)
      have : b_law_follows1 [some (d.enc ins outs), w, some (optD (some q)), some (nI l)] = M.ret (.nx [some (d.enc ins outs), w, some (optD (d.step ins q l)), some (nI l)]) := by
        unfold b_law_follows1
        simp [optD, hn, nI]
      rw [this, bnd_ret]
      exact law_loop hs h w ws (fun l hm => hl l (List.mem_cons_of_mem _ hm)) (d.step ins q l) (fun _ z => step_lt h z) (some (nI l))
theorem law_follows_eq {ins outs : Nat} (hs : Sz ins outs) {d : Dev} (h : d.Ok ins outs) (h0 : 0 < d.len) (ws : List Nat) (hw : ∀ l ∈ ws, l < 2 ^ (ins + outs)) : r__law_follows [d.enc ins outs, .tup (ws.map nI)] = M.ret (.bl (d.go ins (some 0) ws).isSome) := by
  obtain ⟨x3, hl⟩ := law_loop hs h (some (.tup (ws.map nI))) ws hw (some 0) (fun q z => by cases z; exact h0) none
  simp only [optD] at hl
  simp [r__law_follows, s__law_follows, startE]
  have hl' : forGo [] (nameB 3) b_law_follows1 (ws.map nI) [some (d.enc ins outs), some (.tup (ws.map nI)), some (.int 0), none] = _ := hl
  rw [hl']
  cases d.go ins (some 0) ws <;> rfl
/-! ### words -/
theorem pow_at (n : Nat) (h : n ≤ 4) : atI ([1, 2, 4, 8, 16] : List Int) (n : Int) = some ((2 ^ n : Nat) : Int) := by
  have : n = 0 ∨ n = 1 ∨ n = 2 ∨ n = 3 ∨ n = 4 := by omega
  rcases this with rfl | rfl | rfl | rfl | rfl <;> rfl
theorem is_word_eq (n : Nat) (h : n ≤ 4) (ws : List Nat) (hl : ws.length ≤ line) : r_is_word [.int n, .tup (ws.map nI)] = M.ret (.bl (ws.all fun l => decide (l < 2 ^ n))) := by
  have he : e_is_word1 [some (.int n), some (.tup (ws.map nI)), none] = M.ret (.lst ((ws.map fun l => decide (l < 2 ^ n)).map D.bl)) := by
    unfold e_is_word1
    rw [lc_runA nI (fun l => .bl (decide (l < 2 ^ n))) ws (by simp) hl fun l _ => ⟨[(2, nI l)], rfl, by
      have hp := pow_at n h
      have h2 : (decide ((l : Int) ≤ 2 ^ n - 1)) = decide (l < 2 ^ n) := by
        rw [decide_eq_decide]
        have : ((2 ^ n : Nat) : Int) = 2 ^ n := by push_cast; rfl
        omega
      simp [gtupE, hp, is_integer_int, nI, h2]⟩, List.map_map]
    rfl
  simp [r_is_word, s_is_word, startE, he, -List.map_map]
theorem look_ok {ins outs : Nat} (hs : Sz ins outs) {d : Dev} (h : d.Ok ins outs) : r_look_at [d.enc ins outs] = M.ret .non := by
  cases d with
  | m S => simp [r_look_at, s_look_at, startE, Dev.enc, machine_ok hs h]
  | b B => simp [r_look_at, s_look_at, startE, Dev.enc, machine_breaker, breaker_ok hs h]
theorem enc_tracks (ins outs : Nat) (d : Dev) : ∃ s x, d.enc ins outs = .tup [.str s, .int ins, .int outs, x] := by cases d <;> exact ⟨_, _, rfl⟩
theorem follows_test {ins outs : Nat} {d : Dev} {ws : List Nat} {b : Bool} (h1 : r_look_at [d.enc ins outs] = M.ret .non) (h4 : r_is_word [.int ((ins + outs : Nat) : Int), .tup (ws.map nI)] = M.ret (.bl b)) :
    dropS (fnXE r_look_at (consA (varE 0) nilA) p_look_at.length) [some (d.enc ins outs), some (.tup (ws.map nI))] = M.ret (.nx [some (d.enc ins outs), some (.tup (ws.map nI))]) ∧
    ifS (notT (valT (fnE r_is_word (consA (bin2 addD (bin2 ixD (varE 0) (cE (.int 1))) (bin2 ixD (varE 0) (cE (.int 2)))) (consA (varE 1) nilA)) p_is_word.length))) (raiseS0 1) nxS [some (d.enc ins outs), some (.tup (ws.map nI))] = if (!b) = true then raiseS0 1 [some (d.enc ins outs), some (.tup (ws.map nI))] else M.ret (.nx [some (d.enc ins outs), some (.tup (ws.map nI))]) := by
  refine ⟨?_, ?_⟩
  · refine dropS_of (d := .non) ?_
    rw [fnXE_eq, args1 (x := d.enc ins outs) rfl, bnd_ret]
    exact h1
  · refine ifS_of (c := !b) (notT_of (b := b) (valT_of (fnE_of (ds := [.int ((ins + outs : Nat) : Int), .tup (ws.map nI)]) ?_ rfl h4)))
    obtain ⟨s, x, he⟩ := enc_tracks ins outs d
    rw [he]
    refine args2 (bin2_of (x := .int ins) (y := .int outs) (bin2_of (x := .tup [.str s, .int ins, .int outs, x]) (y := .int 1) rfl rfl (atI_1 _ _ _)) (bin2_of (x := .tup [.str s, .int ins, .int outs, x]) (y := .int 2) rfl rfl (atI_2 _ _ _ _)) ?_) rfl
    rw [addD_ii]
    push_cast
    rfl
theorem follows_eq {ins outs : Nat} (hs : Sz ins outs) {d : Dev} (h : d.Ok ins outs) (h0 : 0 < d.len) (ws : List Nat) (hl : ws.length ≤ line) (hw : ∀ l ∈ ws, l < 2 ^ (ins + outs)) : r_follows [d.enc ins outs, .tup (ws.map nI)] = M.ret (.bl (d.go ins (some 0) ws).isSome) := by
  have h3 := hs.s3
  have h2 := place_behind_eq hs h ws h0
  have h4 := is_word_eq (ins + outs) (by omega) ws hl
  have h5 : (ws.all fun l => decide (l < 2 ^ (ins + outs))) = true := List.all_eq_true.mpr fun l hm => by rw [decide_eq_true_eq]; exact hw l hm
  rw [h5] at h4
  obtain ⟨f1, f2⟩ := follows_test (look_ok hs h) h4
  funext g
  refine fnD_ok (env := [some (d.enc ins outs), some (.tup (ws.map nI))]) rfl ?_
  unfold s_follows
  rw [seqS_of f1, seqS_of (f2.trans rfl)]
  refine retS_at ?_
  exact bin2_at (x := optD (d.go ins (some 0) ws)) (y := .non) (g' := g) (fnE_at (ds := [d.enc ins outs, .int ((0 : Nat) : Int), .tup (ws.map nI)]) rfl rfl (by rw [h2]; rfl)) rfl (by cases d.go ins (some 0) ws <;> rfl)
theorem follows_bad {ins outs : Nat} (hs : Sz ins outs) {d : Dev} (h : d.Ok ins outs) (ws : List Nat) (hl : ws.length ≤ line) (hw : ¬ ∀ l ∈ ws, l < 2 ^ (ins + outs)) (g : Bag) : r_follows [d.enc ins outs, .tup (ws.map nI)] g = .exn 1 .non g := by
  have h3 := hs.s3
  have h4 := is_word_eq (ins + outs) (by omega) ws hl
  have h5 : (ws.all fun l => decide (l < 2 ^ (ins + outs))) = false := by
    rw [Bool.eq_false_iff]
    intro z
    exact hw fun l hm => by simpa using List.all_eq_true.mp z l hm
  rw [h5] at h4
  obtain ⟨f1, f2⟩ := follows_test (look_ok hs h) h4
  show M.bnd (s_follows [some (d.enc ins outs), some (.tup (ws.map nI))]) endM g = _
  unfold s_follows
  rw [seqS_of f1, bnd_app, seqS_eq, bnd_app, f2]
  rfl
end K66

/-! K66i: follows_lasso against as many rounds as the law asks. -/
namespace K66
open PySem PySem.Spec L2 RZ VC
open PyProof.Rows hiding St

def encL (hd lp : List Nat) : D := .tup [.str "lasso", .tup (hd.map nI), .tup (lp.map nI)]
theorem pls_nI : ∀ ws : List Nat, pls (ws.map nI) = true
  | [] => rfl
  | w :: ws => by simp [pls, pl, nI, pls_nI ws]
theorem depth_nI : ∀ ws : List Nat, PyData.depthAll (toPys (ws.map nI)) = 0
  | [] => rfl
  | w :: ws => by simp [toPys, PyData.depthAll, nI, toPy, PyData.depth, depth_nI ws]
theorem ne_nil_tup (ws : List Nat) : neVD (.tup (ws.map nI)) (.tup []) = some (.bl (!decide (ws = []))) := neVD_pl (by simp [pl, pls_nI]) rfl (by decide) _ (by simp)
theorem is_lasso_eq (n : Nat) (h : n ≤ 4) (hd lp : List Nat) (h1 : hd.length ≤ line) (h2 : lp.length ≤ line) : r_is_lasso [.int n, encL hd lp] = M.ret (.bl ((hd.all fun l => decide (l < 2 ^ n)) && ((lp.all fun l => decide (l < 2 ^ n)) && !decide (lp = [])))) := by
  have w1 := is_word_eq n h hd h1
  have w2 := is_word_eq n h lp h2
  have e := ne_nil_tup lp
  generalize (hd.all fun l => decide (l < 2 ^ n)) = b1 at w1
  generalize (lp.all fun l => decide (l < 2 ^ n)) = b2 at w2
  cases b1 <;> cases b2 <;> simp [r_is_lasso, s_is_lasso, startE, encL, w1, w2, e]
/-- what comes after n rounds -/
def itp (d : Dev) (ins : Nat) (lp : List Nat) (p0 : Option Nat) : Nat → Option Nat
  | 0 => p0
  | n + 1 => d.go ins (itp d ins lp p0 n) lp
section
variable {d : Dev} {ins : Nat} {lp : List Nat} {p0 : Option Nat}
theorem itp_flat : ∀ n, d.go ins p0 (List.replicate n lp).flatten = itp d ins lp p0 n
  | 0 => by simp [Dev.go, itp]
  | n + 1 => by
    rw [List.replicate_succ', List.flatten_append, Dev.go_append, itp_flat n]
    simp [itp]
theorem itp_none {i : Nat} (h : itp d ins lp p0 i = none) : ∀ k, itp d ins lp p0 (i + k) = none
  | 0 => h
  | k + 1 => by
    show d.go ins (itp d ins lp p0 (i + k)) lp = none
    rw [itp_none h k, Dev.go_none]
theorem itp_shift {i j : Nat} (h : itp d ins lp p0 i = itp d ins lp p0 j) : ∀ k, itp d ins lp p0 (i + k) = itp d ins lp p0 (j + k)
  | 0 => h
  | k + 1 => by
    show d.go ins (itp d ins lp p0 (i + k)) lp = d.go ins (itp d ins lp p0 (j + k)) lp
    rw [itp_shift h k]
theorem itp_some {i j : Nat} (hj : j < i) (h : itp d ins lp p0 i = itp d ins lp p0 j) (hs : ∀ k, k < i → (itp d ins lp p0 k).isSome = true) : ∀ n, (itp d ins lp p0 n).isSome = true := by
  intro n
  induction n using Nat.strongRecOn with
  | ind n ih =>
    by_cases hn : n < i
    · exact hs n hn
    · have e := itp_shift h (n - i)
      rw [show i + (n - i) = n by omega] at e
      rw [e]
      exact ih _ (by omega)
end
theorem lasso_loop {ins outs : Nat} (hs : Sz ins outs) {d : Dev} (h : d.Ok ins outs) (hl4 : d.len ≤ 4) (hd lp : List Nat) (p0 : Option Nat) (hp0 : ∀ q, p0 = some q → q < d.len) (g : Bag) :
    ∃ env' g', whileS (andT (valT (bin2 notNonD (varE 2) (cE .non))) (valT (bin2 notInVD (varE 2) (varE 3)))) b_follows_lasso1 [some (d.enc ins outs), some (encL hd lp), some (optD p0), some (.dK [] [])] g = .ok (.nx env') g' ∧ ∃ p x, env' = [some (d.enc ins outs), some (encL hd lp), some (optD p), some x] ∧ g' = g ∧ p.isSome = (itp d ins lp p0 24).isSome := by
  let kf : Nat → Key := fun q => .inl (q : Int)
  let vf : Nat → D := fun _ => .bl true
  have kinj : ∀ x y, kf x = kf y → x = y := fun x y e => by
    have := Sum.inl.inj e
    omega
  refine while_run (fun m env g' => ∃ (i : Nat) (qs : List Nat), qs.length = i ∧ m + i = d.len ∧ (∀ j, j < i → itp d ins lp p0 j = qs[j]?) ∧ qs.Nodup ∧ (∀ q ∈ qs, q < d.len) ∧ g' = g ∧
      env = [some (d.enc ins outs), some (encL hd lp), some (optD (itp d ins lp p0 i)), some (.dK (qs.map kf) (qs.map vf))])
    (fun env' g' => ∃ p x, env' = [some (d.enc ins outs), some (encL hd lp), some (optD p), some x] ∧ g' = g ∧ p.isSome = (itp d ins lp p0 24).isSome) ?_ d.len _ _ ⟨0, [], rfl, rfl, fun j z => absurd z (Nat.not_lt_zero _), List.nodup_nil, fun _ z => (by cases z), rfl, rfl⟩
  rintro m env g' ⟨i, qs, hql, hm, hq, nd, hlt, rfl, rfl⟩
  cases hp : itp d ins lp p0 i with
  | none =>
    refine ⟨false, g', by simp [optD, ret_app], (fun z => by cases z), fun _ => ⟨none, _, rfl, rfl, ?_⟩⟩
    have := itp_none hp (24 - i)
    rw [show i + (24 - i) = 24 by omega] at this
    rw [this]
  | some q =>
    have hni := notIn_dK kf vf qs (.int q) (kf q) rfl
    by_cases hin : q ∈ qs
    · have hx : hasX (qs.map kf) (kf q) = true := (hasX_iff _ _).mpr (List.mem_map.mpr ⟨q, hin, rfl⟩)
      rw [hx] at hni
      refine ⟨false, g', by simp [optD, ret_app, hni], (fun z => by cases z), fun _ => ⟨some q, _, rfl, rfl, ?_⟩⟩
      obtain ⟨j, hj, e⟩ := List.mem_iff_getElem.mp hin
      have hj2 : itp d ins lp p0 j = some q := by rw [hq j (by omega), List.getElem?_eq_getElem hj, e]
      rw [itp_some (i := i) (j := j) (by omega) (by rw [hp, hj2]) (fun k hk => by rw [hq k hk, List.getElem?_eq_getElem (by omega)]; rfl) 24]
      rfl
    · have hnx : kf q ∉ qs.map kf := fun z => by
        obtain ⟨y, hy, e⟩ := List.mem_map.mp z
        exact hin (kinj _ _ e ▸ hy)
      have hx : hasX (qs.map kf) (kf q) = false := by
        rw [Bool.eq_false_iff]
        exact fun z => hnx ((hasX_iff _ _).mp z)
      rw [hx] at hni
      have hq2 : q < d.len := by
        have : ∀ n q, itp d ins lp p0 n = some q → q < d.len := fun n => by
          induction n with
          | zero => exact fun q e => hp0 q e
          | succ n ih =>
            intro q e
            have e : d.go ins (itp d ins lp p0 n) lp = some q := e
            cases hn : itp d ins lp p0 n with
            | none => rw [hn, Dev.go_none] at e; cases e
            | some q' => rw [hn] at e; exact go_lt h lp q' q (ih q' hn) e
        exact this i q hp
      have hpg := pigeon d.len (qs ++ [q]) (nodup_snoc nd hin) fun x hx => by
        rcases List.mem_append.mp hx with hx | hx
        · exact hlt x hx
        · rw [List.mem_singleton.mp hx]; exact hq2
      rw [List.length_append, List.length_singleton] at hpg
      refine ⟨true, g', by simp [optD, ret_app, hni], fun _ => ?_, (fun z => by cases z)⟩
      have hput := put_dK kf vf qs q (.int q) rfl hnx (show qs.length < line by unfold line; omega)
      have h1 : dputF 3 (varE 2) (cE (.bl true)) [some (d.enc ins outs), some (encL hd lp), some (optD (some q)), some (.dK (qs.map kf) (qs.map vf))] = M.ret (.nx [some (d.enc ins outs), some (encL hd lp), some (optD (some q)), some (.dK ((qs ++ [q]).map kf) ((qs ++ [q]).map vf))]) := dputF_of (x := .bl true) rfl rfl rfl hput rfl
      have hpb := place_behind_eq hs h lp hq2
      have h2 : b_follows_lasso1 [some (d.enc ins outs), some (encL hd lp), some (optD (some q)), some (.dK (qs.map kf) (qs.map vf))] = M.ret (.nx [some (d.enc ins outs), some (encL hd lp), some (optD (itp d ins lp p0 (i + 1))), some (.dK ((qs ++ [q]).map kf) ((qs ++ [q]).map vf))]) := by
        unfold b_follows_lasso1
        rw [seqS_of h1]
        refine asgH_of ?_
        refine fnE_of (ds := [d.enc ins outs, .int q, .tup (lp.map nI)]) ?_ rfl (by rw [hpb]; show M.ret (optD (d.go ins (some q) lp)) = M.ret (optD (d.go ins (itp d ins lp p0 i) lp)); rw [hp])
        simp [hide, encL, optD]
      refine ⟨_, g', m - 1, .inl (by rw [h2]; rfl), by omega, i + 1, qs ++ [q], by simp [hql], by omega, fun j hj => ?_, nodup_snoc nd hin, fun x hx => ?_, rfl, rfl⟩
      · by_cases hji : j < i
        · rw [hq j hji, List.getElem?_append_left (by omega)]
        · have : j = i := by omega
          rw [this, hp, List.getElem?_append_right (by omega), hql, Nat.sub_self]
          rfl
      · rcases List.mem_append.mp hx with hx | hx
        · exact hlt x hx
        · rw [List.mem_singleton.mp hx]; exact hq2
theorem all_lt {n : Nat} {ws : List Nat} (h : ∀ l ∈ ws, l < 2 ^ n) : (ws.all fun l => decide (l < 2 ^ n)) = true := List.all_eq_true.mpr fun l hm => by rw [decide_eq_true_eq]; exact h l hm
/-- as the law asks: the head and so many rounds -/
theorem follows_lasso_eq {ins outs : Nat} (hs : Sz ins outs) {d : Dev} (h : d.Ok ins outs) (h0 : 0 < d.len) (hl4 : d.len ≤ 4) (hd lp : List Nat) (h1 : hd.length ≤ line) (h2 : lp.length ≤ line) (h3 : ∀ l ∈ hd, l < 2 ^ (ins + outs)) (h4 : ∀ l ∈ lp, l < 2 ^ (ins + outs)) (hne : lp ≠ []) (g : Bag) :
    r_follows_lasso [d.enc ins outs, encL hd lp] g = .ok (.bl (d.go ins (some 0) (hd ++ (List.replicate 24 lp).flatten)).isSome) g := by
  have s3 := hs.s3
  have k1 := look_ok hs h
  have k2 := is_lasso_eq (ins + outs) (by omega) hd lp h1 h2
  rw [all_lt h3, all_lt h4, decide_eq_false hne] at k2
  have k3 := place_behind_eq hs h hd h0
  obtain ⟨env', g', h5, p, x, rfl, rfl, h6⟩ := lasso_loop hs h hl4 hd lp (d.go ins (some 0) hd) (fun q e => go_lt h hd 0 q h0 e) g
  rw [Dev.go_append, itp_flat, ← h6]
  refine fnD_ok (env := [some (d.enc ins outs), some (encL hd lp), none, none]) rfl ?_
  unfold s_follows_lasso
  have e1 : dropS (fnXE r_look_at (consA (varE 0) nilA) p_look_at.length) [some (d.enc ins outs), some (encL hd lp), none, none] = M.ret (.nx [some (d.enc ins outs), some (encL hd lp), none, none]) := by
    refine dropS_of (d := .non) ?_
    simp [k1]
  rw [seqS_of e1]
  have e2 : ifS (notT (valT (fnE r_is_lasso (consA (bin2 addD (bin2 ixD (varE 0) (cE (.int 1))) (bin2 ixD (varE 0) (cE (.int 2)))) (consA (varE 1) nilA)) p_is_lasso.length))) (raiseS0 1) nxS [some (d.enc ins outs), some (encL hd lp), none, none] = M.ret (.nx [some (d.enc ins outs), some (encL hd lp), none, none]) := by
    refine (ifS_of (c := false) (notT_of (b := true) (valT_of (fnE_of (ds := [.int ((ins + outs : Nat) : Int), encL hd lp]) ?_ rfl k2)))).trans rfl
    · obtain ⟨s, y, he⟩ := enc_tracks ins outs d
      rw [he]
      simp
  rw [seqS_of e2]
  have e3 : asgH [] 2 (fnE r_place_behind (consA (varE 0) (consA (cE (.int 0)) (consA (bin2 ixD (varE 1) (cE (.int 1))) nilA))) p_place_behind.length) [some (d.enc ins outs), some (encL hd lp), none, none] = M.ret (.nx [some (d.enc ins outs), some (encL hd lp), some (optD (d.go ins (some 0) hd)), none]) := by
    refine asgH_of (fnE_of (ds := [d.enc ins outs, .int ((0 : Nat) : Int), .tup (hd.map nI)]) ?_ rfl k3)
    simp [encL]
  rw [seqS_of e3]
  have e4 : asgNH [] 3 newK [some (d.enc ins outs), some (encL hd lp), some (optD (d.go ins (some 0) hd)), none] = M.ret (.nx [some (d.enc ins outs), some (encL hd lp), some (optD (d.go ins (some 0) hd)), some (.dK [] [])]) := asgNH_of rfl
  rw [seqS_of e4, seqS_ok h5]
  refine retS_at ?_
  cases p <;> rfl
theorem follows_lasso_bad {ins outs : Nat} (hs : Sz ins outs) {d : Dev} (h : d.Ok ins outs) (g : Bag) : r_follows_lasso [d.enc ins outs, encL [] []] g = .exn 1 .non g := by
  have s3 := hs.s3
  have k1 := look_ok hs h
  have k2 := is_lasso_eq (ins + outs) (by omega) [] [] (Nat.zero_le _) (Nat.zero_le _)
  have e1 : dropS (fnXE r_look_at (consA (varE 0) nilA) p_look_at.length) [some (d.enc ins outs), some (encL [] []), none, none] = M.ret (.nx [some (d.enc ins outs), some (encL [] []), none, none]) := by
    refine dropS_of (d := .non) ?_
    simp [k1]
  have e2 : ifS (notT (valT (fnE r_is_lasso (consA (bin2 addD (bin2 ixD (varE 0) (cE (.int 1))) (bin2 ixD (varE 0) (cE (.int 2)))) (consA (varE 1) nilA)) p_is_lasso.length))) (raiseS0 1) nxS [some (d.enc ins outs), some (encL [] []), none, none] g = .exn 1 .non g := by
    refine (congrFun (ifS_of (c := true) (notT_of (b := false) (valT_of (fnE_of (ds := [.int ((ins + outs : Nat) : Int), encL [] []]) ?_ rfl k2)))) g).trans rfl
    · obtain ⟨s, y, he⟩ := enc_tracks ins outs d
      rw [he]
      simp
  show M.bnd (s_follows_lasso [some (d.enc ins outs), some (encL [] []), none, none]) endM g = _
  unfold s_follows_lasso
  rw [seqS_of e1, bnd_app, seqS_eq, bnd_app, e2]
end K66

/-! K66j: answers; what is raised. -/
namespace K66
open PySem PySem.Spec L2 RZ VC
open PyProof.Rows hiding St

def ansW (ins : Nat) (S : List MRow) : Nat → List Nat → List Nat
  | _, [] => []
  | p, g :: gs => match S[p]?.bind (fun r => r[g]?) with
    | some q => (g + q.1 * 2 ^ ins) :: ansW ins S q.2 gs
    | none => []
theorem row_at {ins outs : Nat} {S : List MRow} (h : GM ins outs S) {p g : Nat} (hp : p < S.length) (hg : g < 2 ^ ins) : ∃ r q, S[p]? = some r ∧ r[g]? = some q ∧ q.1 < 2 ^ outs ∧ q.2 < S.length ∧ r ∈ S := by
  have e := List.getElem?_eq_getElem hp
  have hr := List.getElem_mem hp
  generalize S[p] = r at e hr
  have hw := h.w r hr
  have e2 := List.getElem?_eq_getElem (show g < r.length by omega)
  obtain ⟨h1, h2⟩ := h.e r hr _ (List.mem_of_getElem? e2)
  exact ⟨r, _, e, e2, h1, h2, hr⟩
theorem ansW_props {ins outs : Nat} {S : List MRow} (h : GM ins outs S) : ∀ (gs : List Nat) (p : Nat), p < S.length → (∀ g ∈ gs, g < 2 ^ ins) → (ansW ins S p gs).length = gs.length ∧ (∀ l ∈ ansW ins S p gs, l < 2 ^ (ins + outs)) ∧ (ansW ins S p gs).map (· % 2 ^ ins) = gs ∧ (Dev.go ins (.m S) (some p) (ansW ins S p gs)).isSome = true
  | [], p, _, _ => ⟨rfl, (fun _ z => by cases z), rfl, rfl⟩
  | g :: gs, p, hp, hg => by
    obtain ⟨r, q, e1, e2, h1, h2, _⟩ := row_at h hp (hg g List.mem_cons_self)
    have hgg := hg g List.mem_cons_self
    obtain ⟨i1, i2, i3, i4⟩ := ansW_props h gs q.2 h2 fun x hx => hg x (List.mem_cons_of_mem _ hx)
    have e : ansW ins S p (g :: gs) = (g + q.1 * 2 ^ ins) :: ansW ins S q.2 gs := by
      simp only [ansW, e1, Option.bind_some, e2]
    obtain ⟨m1, m2⟩ := (div_mod_iff (l := g + q.1 * 2 ^ ins) hgg).mp rfl
    rw [e]
    refine ⟨by rw [List.length_cons, List.length_cons, i1], fun l hl => ?_, by rw [List.map_cons, i3, ← m1], ?_⟩
    · rcases List.mem_cons.mp hl with rfl | hl
      · rw [Nat.pow_add]
        calc g + q.1 * 2 ^ ins < 2 ^ ins + q.1 * 2 ^ ins := by omega
          _ = 2 ^ ins * (q.1 + 1) := by rw [Nat.mul_add, Nat.mul_comm q.1, Nat.mul_one, Nat.add_comm]
          _ ≤ 2 ^ ins * 2 ^ outs := Nat.mul_le_mul_left _ h1
      · exact i2 l hl
    · show (Dev.go ins (.m S) (stepM ins S p (g + q.1 * 2 ^ ins)) (ansW ins S q.2 gs)).isSome = true
      have : stepM ins S p (g + q.1 * 2 ^ ins) = some q.2 := by
        unfold stepM
        rw [e1, Option.bind_some, ← m1, e2, Option.bind_some, if_pos m2]
      rw [this]
      exact i4
theorem ans_turn {ins outs : Nat} (hs : Sz ins outs) {S : List MRow} (h : GM ins outs S) {p g : Nat} (hp : p < S.length) (hg : g < 2 ^ ins) (m i o : Option D) (acc : List D) (ha : acc.length < line) (x8 x9 : Option D) : ∃ q, S[p]?.bind (fun r => r[g]?) = some q ∧ q.2 < S.length ∧
    b_answers2 [m, i, o, some (.int ins), some (.tup (S.map encR)), some (.int p), some (.lst acc), some (nI g), x8, x9] = M.ret (.nx [m, i, o, some (.int ins), some (.tup (S.map encR)), some (.int q.2), some (.lst (acc ++ [nI (g + q.1 * 2 ^ ins)])), some (nI g), some (.int q.1), x9]) := by
  have i2 := hs.i
  have o2 := pw_le hs.o
  obtain ⟨r, q, e1, e2, h1, h2, _⟩ := row_at h hp hg
  refine ⟨q, by rw [e1, Option.bind_some, e2], h2, ?_⟩
  have ep : atI (S.map encR) (p : Int) = some (encR r) := by rw [VC.atI_nat, List.getElem?_map, e1]; rfl
  have er : atI (r.map encP) (g : Int) = some (encP q) := by rw [VC.atI_nat, List.getElem?_map, e2]; rfl
  have hsh := shl_nat q.1 ins (by omega) (by omega)
  push_cast at hsh
  unfold b_answers2
  have hat : ∀ x y : Option D, lstAt [m, i, o, some (.int ins), some (.tup (S.map encR)), x, some (.lst acc), y, some (.int q.1), x9] 6 = some acc := fun x y => rfl
  simp [ep, encR, er, encP, hsh, hat, nI, ha]
theorem ans_loop {ins outs : Nat} (hs : Sz ins outs) {S : List MRow} (h : GM ins outs S) (m i o x9 : Option D) : ∀ (gs : List Nat) (p : Nat), p < S.length → (∀ g ∈ gs, g < 2 ^ ins) → ∀ (acc : List D), acc.length + gs.length < line → ∀ x7 x8, ∃ p' x7' x8',
    forGo [6] (nameB 7) b_answers2 (gs.map nI) [m, i, o, some (.int ins), some (.tup (S.map encR)), some (.int p), some (.lst acc), x7, x8, x9] = M.ret (.nx [m, i, o, some (.int ins), some (.tup (S.map encR)), p', some (.lst (acc ++ (ansW ins S p gs).map nI)), x7', x8', x9])
  | [], p, _, _, acc, _, x7, x8 => ⟨some (.int p), x7, x8, by rw [show (ansW ins S p []).map nI = [] from rfl, List.append_nil]; rfl⟩
  | g :: gs, p, hp, hg, acc, ha, x7, x8 => by
    rw [List.length_cons] at ha
    obtain ⟨q, e, h2, ht⟩ := ans_turn hs h hp (hg g List.mem_cons_self) m i o acc (by omega) x8 x9
    have ew : ansW ins S p (g :: gs) = (g + q.1 * 2 ^ ins) :: ansW ins S q.2 gs := by
      simp only [ansW, e]
    rw [ew, List.map_cons, forGo_cons (l := [(7, nI g)]) rfl rfl]
    show ∃ p' x7' x8', M.bnd (b_answers2 [m, i, o, some (.int ins), some (.tup (S.map encR)), some (.int p), some (.lst acc), some (nI g), x8, x9]) _ = _
    rw [ht, bnd_ret]
    obtain ⟨p', x7', x8', ih⟩ := ans_loop hs h m i o x9 gs q.2 h2 (fun x hx => hg x (List.mem_cons_of_mem _ hx)) (acc ++ [nI (g + q.1 * 2 ^ ins)]) (by rw [List.length_append, List.length_singleton]; omega) (some (nI g)) (some (.int q.1))
    refine ⟨p', x7', x8', ?_⟩
    rw [List.map_cons, ← List.singleton_append (l := (ansW ins S q.2 gs).map nI), ← List.append_assoc]
    exact ih
theorem ans_all (ins : Nat) (hi : ins ≤ 2) (gs : List Nat) (hl : gs.length ≤ line) (m o st x5 x6 x7 x8 x9 : Option D) : e_answers1 [m, some (.tup (gs.map nI)), o, some (.int ins), st, x5, x6, x7, x8, x9] = M.ret (.lst ((gs.map fun l => decide (l < 2 ^ ins)).map D.bl)) := by
  unfold e_answers1
  rw [lc_runA nI (fun l => .bl (decide (l < 2 ^ ins))) gs (by simp) hl fun l _ => ⟨[(9, nI l)], rfl, by
    have h1 := shl_one ins (by omega)
    push_cast at h1
    have h2 : (decide ((l : Int) ≤ 2 ^ ins - 1)) = decide (l < 2 ^ ins) := by
      rw [decide_eq_decide]
      have : ((2 ^ ins : Nat) : Int) = 2 ^ ins := by push_cast; rfl
      omega
    simp [is_integer_int, nI, h1, h2]⟩, List.map_map]
  rfl
theorem answers_eq {ins outs : Nat} (hs : Sz ins outs) {S : List MRow} (h : GM ins outs S) (gs : List Nat) (hl : gs.length < line) (hg : ∀ g ∈ gs, g < 2 ^ ins) : r_answers [encM ins outs S, .tup (gs.map nI)] = M.ret (.tup ((ansW ins S 0 gs).map nI)) := by
  have h1 := machine_ok hs h
  have h2 := ans_all ins hs.i gs (by omega) (some (encM ins outs S)) (some (.int outs)) (some (.tup (S.map encR))) none none none none none
  obtain ⟨p', x7, x8, h3⟩ := ans_loop hs h (some (encM ins outs S)) (some (.tup (gs.map nI))) (some (.int outs)) none gs 0 h.l1 hg [] (by simpa using hl) none none
  have h4 : (gs.all fun l => decide (l < 2 ^ ins)) = true := all_lt hg
  rw [List.nil_append] at h3
  unfold encM at h1 h2 h3 ⊢
  have h3 : forGo [6] (nameB 7) b_answers2 (gs.map nI) [some (.tup [.str "machine", .int ins, .int outs, .tup (S.map encR)]), some (.tup (gs.map nI)), some (.int outs), some (.int ins), some (.tup (S.map encR)), some (.int 0), some (.lst []), none, none, none] = _ := h3
  simp [r_answers, s_answers, startE, h1, h2, h3, h4, -List.map_map]
theorem answers_bad {ins outs : Nat} (hs : Sz ins outs) {S : List MRow} (h : GM ins outs S) (gs : List Nat) (hl : gs.length < line) (hg : (gs.all fun l => decide (l < 2 ^ ins)) = false) (g : Bag) : r_answers [encM ins outs S, .tup (gs.map nI)] g = .exn 1 .non g := by
  have h1 := machine_ok hs h
  have h2 := ans_all ins hs.i gs (by omega) (some (encM ins outs S)) (some (.int outs)) (some (.tup (S.map encR))) none none none none none
  unfold encM at h1 h2 ⊢
  simp [r_answers, s_answers, startE, h1, h2, hg, -List.map_map]
theorem answers_no {v : D} (h : r_is_machine [v] = M.ret (.bl false)) (w : D) (g : Bag) : r_answers [v, w] g = .exn 0 (.int 0) g := by
  simp [r_answers, s_answers, startE, h]
theorem follows_no {v : D} (h : r_is_machine [v] = M.ret (.bl false)) (h2 : r_is_breaker [v] = M.ret (.bl false)) (w : D) (g : Bag) : r_follows [v, w] g = .exn 0 (.int 0) g := by
  have : r_look_at [v] = fun g => .exn 0 (.int 0) g := by
    simp [r_look_at, s_look_at, startE, h, h2]
  simp [r_follows, s_follows, startE, this]
theorem meets_no {ins outs : Nat} (hs : Sz ins outs) {S : List MRow} (h : GM ins outs S) (g : Bag) : r_meets [encM ins outs S, encM ins outs S] g = .exn 0 (.int 1) g := by
  have h1 := machine_ok hs h
  have h2 := breaker_machine ins outs S
  simp [r_meets, s_meets, startE, h1, h2]
end K66

/-! K66k: a machine meets a breaker. -/
namespace K66
open PySem PySem.Spec L2 RZ VC
open PyProof.Rows hiding St

def mt (ins : Nat) (S : List MRow) (B : List BRow) (x : Nat × Nat) : Nat × (Nat × Nat) :=
  let b := (B[x.2]?).getD (0, [])
  let q := (((S[x.1]?).getD [])[b.1]?).getD (0, 0)
  (b.1 + q.1 * 2 ^ ins, (q.2, (b.2[q.1]?).getD 0))
def sq (ins : Nat) (S : List MRow) (B : List BRow) : Nat → Nat × Nat
  | 0 => (0, 0)
  | n + 1 => (mt ins S B (sq ins S B n)).2
def sl (ins : Nat) (S : List MRow) (B : List BRow) (n : Nat) : Nat := (mt ins S B (sq ins S B n)).1
section
variable {ins outs : Nat} {S : List MRow} {B : List BRow}
theorem mt_at (hM : GM ins outs S) (hB : GB ins outs B) {x : Nat × Nat} (h1 : x.1 < S.length) (h2 : x.2 < B.length) : ∃ b r q t, B[x.2]? = some b ∧ S[x.1]? = some r ∧ r[b.1]? = some q ∧ b.2[q.1]? = some t ∧ mt ins S B x = (b.1 + q.1 * 2 ^ ins, (q.2, t)) ∧ b.1 < 2 ^ ins ∧ q.1 < 2 ^ outs ∧ q.2 < S.length ∧ t < B.length := by
  have eb := List.getElem?_eq_getElem h2
  have hb := List.getElem_mem h2
  generalize B[x.2] = b at eb hb
  have g1 := hB.g b hb
  obtain ⟨r, q, e1, e2, q1, q2, _⟩ := row_at hM h1 g1
  have hw := hB.w b hb
  have et := List.getElem?_eq_getElem (show q.1 < b.2.length by omega)
  have ht := hB.e b hb _ (List.getElem_mem (show q.1 < b.2.length by omega))
  refine ⟨b, r, q, _, eb, e1, e2, et, ?_, g1, q1, q2, ht⟩
  unfold mt
  simp only [eb, e1, e2, et, Option.getD_some]
theorem sq_in (hM : GM ins outs S) (hB : GB ins outs B) : ∀ n, (sq ins S B n).1 < S.length ∧ (sq ins S B n).2 < B.length
  | 0 => ⟨hM.l1, hB.l1⟩
  | n + 1 => by
    obtain ⟨h1, h2⟩ := sq_in hM hB n
    obtain ⟨b, r, q, t, _, _, _, _, e, _, _, q2, ht⟩ := mt_at hM hB h1 h2
    show (mt ins S B (sq ins S B n)).2.1 < _ ∧ (mt ins S B (sq ins S B n)).2.2 < _
    rw [e]
    exact ⟨q2, ht⟩
/-- at most sixteen pairs -/
theorem few (hM : GM ins outs S) (hB : GB ins outs B) {n : Nat} (nd : ((List.range n).map (sq ins S B)).Nodup) : n ≤ 16 := by
  have l4 := hM.l4
  have l4' := hB.l4
  have := pigeon 16 (((List.range n).map (sq ins S B)).map fun x => x.1 * 4 + x.2) (by
    rw [List.map_map]
    have h2 : ∀ (l : List Nat), (l.map (sq ins S B)).Nodup → (l.map ((fun x : Nat × Nat => x.1 * 4 + x.2) ∘ sq ins S B)).Nodup := by
      intro l
      induction l with
      | nil => exact fun _ => List.nodup_nil
      | cons a l ih =>
        intro h
        rw [List.map_cons, List.nodup_cons] at h ⊢
        refine ⟨fun z => ?_, ih h.2⟩
        obtain ⟨y, hy, e⟩ := List.mem_map.mp z
        have e : (sq ins S B y).1 * 4 + (sq ins S B y).2 = (sq ins S B a).1 * 4 + (sq ins S B a).2 := e
        have a1 := sq_in hM hB y
        have a2 := sq_in hM hB a
        exact h.1 (List.mem_map.mpr ⟨y, hy, Prod.ext (by omega) (by omega)⟩)
    exact h2 _ nd) (fun q hq => by
      obtain ⟨x, hx, rfl⟩ := List.mem_map.mp hq
      obtain ⟨y, _, rfl⟩ := List.mem_map.mp hx
      have a1 := sq_in hM hB y
      omega)
  rw [List.length_map, List.length_map, List.length_range] at this
  exact this
theorem range_snoc {α : Type} (f : Nat → α) (n : Nat) : (List.range (n + 1)).map f = (List.range n).map f ++ [f n] := by
  rw [List.range_succ, List.map_append]
  rfl
/-- where it comes again -/
structure Back (ins : Nat) (S : List MRow) (B : List BRow) (n j : Nat) : Prop where
  lt : j < n
  nd : ((List.range n).map (sq ins S B)).Nodup
  eq : sq ins S B n = sq ins S B j
theorem nd_le {f : Nat → Nat × Nat} {n m : Nat} (h : m ≤ n) (nd : ((List.range n).map f).Nodup) : ((List.range m).map f).Nodup := by
  have : List.range n = List.range m ++ (List.range (n - m)).map (m + ·) := by
    rw [← List.range_add]
    congr 1
    omega
  rw [this, List.map_append, List.nodup_append] at nd
  exact nd.1
theorem nd_inj {f : Nat → Nat × Nat} {n i j : Nat} (nd : ((List.range n).map f).Nodup) (hi : i < n) (hj : j < n) (e : f i = f j) : i = j := by
  by_cases h : i = j
  · exact h
  · exfalso
    have hlen : ((List.range n).map f).length = n := by simp
    have hg : ∀ k (hk : k < ((List.range n).map f).length), ((List.range n).map f)[k] = f k := fun k hk => by simp
    have hp := List.pairwise_iff_getElem.mp nd
    rcases Nat.lt_or_gt_of_ne h with h | h
    · exact hp i j (by omega) (by omega) h (by rw [hg, hg]; exact e)
    · exact hp j i (by omega) (by omega) h (by rw [hg, hg]; exact e.symm)
theorem Back.uniq {n j n' j' : Nat} (a : Back ins S B n j) (b : Back ins S B n' j') : n = n' ∧ j = j' := by
  have hn : n = n' := by
    rcases Nat.lt_trichotomy n n' with h | h | h
    · have := nd_inj b.nd (show n < n' from h) (show j < n' by have := a.lt; omega) a.eq
      have := a.lt
      omega
    · exact h
    · have := nd_inj a.nd (show n' < n from h) (show j' < n by have := b.lt; omega) b.eq
      have := b.lt
      omega
  subst hn
  exact ⟨rfl, nd_inj a.nd a.lt b.lt (a.eq.symm.trans b.eq)⟩
def lassoOf (ins : Nat) (S : List MRow) (B : List BRow) (n j : Nat) : D := encL (((List.range n).map (sl ins S B)).take j) (((List.range n).map (sl ins S B)).drop j)
end
def qk (x : Nat × Nat) : List Key := [.inl (x.1 : Int), .inl (x.2 : Int)]
theorem qk_inj {x y : Nat × Nat} (h : qk x = qk y) : x = y := by
  unfold qk at h
  have h1 := Sum.inl.inj (List.cons.inj h).1
  have h2 := Sum.inl.inj (List.cons.inj (List.cons.inj h).2).1
  exact Prod.ext (by omega) (by omega)
end K66

/-! K66l: the walk of meets. -/
namespace K66
open PySem PySem.Spec L2 RZ VC
open PyProof.Rows hiding St

section
variable {ins outs : Nat} {S : List MRow} {B : List BRow}
theorem pair_key (x : Nat × Nat) : keyT (encP x) = some (qk x) := rfl
theorem meet_rest (hs : Sz ins outs) (hM : GM ins outs S) (hB : GB ins outs B) {x : Nat × Nat} (h1 : x.1 < S.length) (h2 : x.2 < B.length) (dd : Option D) (ls : List D) (hl : ls.length + 1 ≤ line) (x6 x7 x8 x9 : Option D) : ∃ y6 y7 y8 y9,
    seqS (unpH [4] (tupB 2 (consB (nameB 6) (consB (nameB 7) nilB))) (bin2 ixD (bin2 ixD (varE 1) (cE (.int 3))) (bin2 ixD (varE 3) (cE (.int 1))))) (seqS (unpH [4] (tupB 2 (consB (nameB 8) (consB (nameB 9) nilB))) (bin2 ixD (bin2 ixD (bin2 ixD (varE 0) (cE (.int 3))) (bin2 ixD (varE 3) (cE (.int 0)))) (varE 6))) (seqS (asgH [4] 5 (bin2 addD (varE 5) (tupE (consA (bin2 addD (varE 6) (bin2 shlD (varE 8) (varE 2))) nilA)))) (asgH [4] 3 (tupE (consA (varE 9) (consA (bin2 ixD (varE 7) (varE 8)) nilA))))))
      [some (encM ins outs S), some (encB ins outs B), some (.int ins), some (encP x), dd, some (.tup ls), x6, x7, x8, x9] = M.ret (.nx [some (encM ins outs S), some (encB ins outs B), some (.int ins), some (encP (mt ins S B x).2), dd, some (.tup (ls ++ [nI (mt ins S B x).1])), y6, y7, y8, y9]) := by
  obtain ⟨b, r, q, t, e1, e2, e3, e4, e5, g1, q1, q2, ht⟩ := mt_at hM hB h1 h2
  have i2 := hs.i
  have o2 := pw_le hs.o
  have p1 : atI (B.map encBR) (x.2 : Int) = some (encBR b) := by rw [VC.atI_nat, List.getElem?_map, e1]; rfl
  have p2 : atI (S.map encR) (x.1 : Int) = some (encR r) := by rw [VC.atI_nat, List.getElem?_map, e2]; rfl
  have p3 : atI (r.map encP) (b.1 : Int) = some (encP q) := by rw [VC.atI_nat, List.getElem?_map, e3]; rfl
  have p4 : atI (b.2.map nI) (q.1 : Int) = some (nI t) := by rw [VC.atI_nat, List.getElem?_map, e4]; rfl
  have hsh := shl_nat q.1 ins (by omega) (by omega)
  push_cast at hsh
  have ha : ∀ y : D, addD (.tup ls) (.tup [y]) = some (.tup (ls ++ [y])) := fun y => by
    show (if _ then _ else _) = _
    rw [if_pos (by simpa using hl)]
  rw [e5]
  refine ⟨some (.int b.1), some (.tup (b.2.map nI)), some (.int q.1), some (.int q.2), ?_⟩
  simp [encM, encB, encP, encBR, encR, p1, p2, p3, p4, hsh, ha, nI]
def kS (ins : Nat) (S : List MRow) (B : List BRow) (n : Nat) : List Key := qk (sq ins S B n)
def vS (n : Nat) : D := .int (n : Int)
theorem kS_mem {n : Nat} {as : List Nat} : kS ins S B n ∈ as.map (kS ins S B) ↔ sq ins S B n ∈ as.map (sq ins S B) := by
  rw [List.mem_map, List.mem_map]
  constructor
  · rintro ⟨a, h, e⟩
    exact ⟨a, h, qk_inj e⟩
  · rintro ⟨a, h, e⟩
    exact ⟨a, h, by show qk _ = qk _; rw [e]⟩
theorem back_of {n : Nat} (nd : ((List.range n).map (sq ins S B)).Nodup) (h : sq ins S B n ∈ (List.range n).map (sq ins S B)) : ∃ j, Back ins S B n j := by
  obtain ⟨j, hj, e⟩ := List.mem_map.mp h
  exact ⟨j, List.mem_range.mp hj, nd, e.symm⟩
theorem meet_loop (hs : Sz ins outs) (hM : GM ins outs S) (hB : GB ins outs B) (g : Bag) : ∃ env' g', whileS (valT (bin2 notInVD (varE 3) (varE 4))) b_meets1 [some (encM ins outs S), some (encB ins outs B), some (.int ins), some (encP (0, 0)), some (.dT [] []), some (.tup []), none, none, none, none] g = .ok (.nx env') g' ∧
    ∃ n j x6 x7 x8 x9, Back ins S B n j ∧ g' = g ∧ env' = [some (encM ins outs S), some (encB ins outs B), some (.int ins), some (encP (sq ins S B n)), some (.dT ((List.range n).map (kS ins S B)) ((List.range n).map vS)), some (.tup (((List.range n).map (sl ins S B)).map nI)), x6, x7, x8, x9] := by
  refine while_run (fun m env g' => ∃ n x6 x7 x8 x9, m + n = 17 ∧ ((List.range n).map (sq ins S B)).Nodup ∧ g' = g ∧ env = [some (encM ins outs S), some (encB ins outs B), some (.int ins), some (encP (sq ins S B n)), some (.dT ((List.range n).map (kS ins S B)) ((List.range n).map vS)), some (.tup (((List.range n).map (sl ins S B)).map nI)), x6, x7, x8, x9])
    (fun env' g' => ∃ n j x6 x7 x8 x9, Back ins S B n j ∧ g' = g ∧ env' = [some (encM ins outs S), some (encB ins outs B), some (.int ins), some (encP (sq ins S B n)), some (.dT ((List.range n).map (kS ins S B)) ((List.range n).map vS)), some (.tup (((List.range n).map (sl ins S B)).map nI)), x6, x7, x8, x9]) ?_ 17 _ _ ⟨0, none, none, none, none, rfl, List.nodup_nil, rfl, rfl⟩
  rintro m env g' ⟨n, x6, x7, x8, x9, hm, nd, rfl, rfl⟩
  have hni := notIn_dT (kS ins S B) vS (List.range n) (encP (sq ins S B n)) _ (pair_key _)
  by_cases hin : sq ins S B n ∈ (List.range n).map (sq ins S B)
  · have hx : hasX ((List.range n).map (kS ins S B)) (qk (sq ins S B n)) = true := (hasX_iff _ _).mpr (kS_mem.mpr hin)
    rw [hx] at hni
    obtain ⟨j, hj⟩ := back_of nd hin
    exact ⟨false, g', by simp [ret_app, hni], (fun z => by cases z), fun _ => ⟨n, j, x6, x7, x8, x9, hj, rfl, rfl⟩⟩
  · have hnx : kS ins S B n ∉ (List.range n).map (kS ins S B) := fun z => hin (kS_mem.mp z)
    have hx : hasX ((List.range n).map (kS ins S B)) (qk (sq ins S B n)) = false := by
      rw [Bool.eq_false_iff]
      exact fun z => hnx ((hasX_iff _ _).mp z)
    rw [hx] at hni
    have nd2 : ((List.range (n + 1)).map (sq ins S B)).Nodup := by rw [range_snoc]; exact nodup_snoc nd hin
    have hf := few hM hB nd2
    refine ⟨true, g', by simp [ret_app, hni], fun _ => ?_, (fun z => by cases z)⟩
    have hput := put_dT (kS ins S B) vS (List.range n) n (encP (sq ins S B n)) (pair_key _) hnx (show (List.range n).length < line by rw [List.length_range]; unfold line; omega)
    rw [← List.range_succ] at hput
    have h1 : dputF 4 (varE 3) (callE lenL (consA (varE 5) nilA)) [some (encM ins outs S), some (encB ins outs B), some (.int ins), some (encP (sq ins S B n)), some (.dT ((List.range n).map (kS ins S B)) ((List.range n).map vS)), some (.tup (((List.range n).map (sl ins S B)).map nI)), x6, x7, x8, x9] = M.ret (.nx [some (encM ins outs S), some (encB ins outs B), some (.int ins), some (encP (sq ins S B n)), some (.dT ((List.range (n + 1)).map (kS ins S B)) ((List.range (n + 1)).map vS)), some (.tup (((List.range n).map (sl ins S B)).map nI)), x6, x7, x8, x9]) := dputF_of (x := vS n) (by simp [vS]) rfl rfl hput rfl
    obtain ⟨a1, a2⟩ := sq_in hM hB n
    obtain ⟨y6, y7, y8, y9, h2⟩ := meet_rest hs hM hB a1 a2 (some (.dT ((List.range (n + 1)).map (kS ins S B)) ((List.range (n + 1)).map vS))) (((List.range n).map (sl ins S B)).map nI) (by simp; unfold line; omega) x6 x7 x8 x9
    refine ⟨_, g', m - 1, .inl (by unfold b_meets1; rw [seqS_of h1, h2]; rfl), by omega, n + 1, y6, y7, y8, y9, by omega, nd2, rfl, ?_⟩
    rw [range_snoc (sl ins S B), List.map_append]
    rfl
theorem find_back {n j : Nat} (h : Back ins S B n j) : (List.range n).find? (fun a => decide (kS ins S B a = qk (sq ins S B n))) = some j := by
  rw [List.find?_range_eq_some]
  refine ⟨by rw [h.eq]; simp [kS], List.mem_range.mpr h.lt, fun i hi => ?_⟩
  simp only [Bool.not_eq_true', decide_eq_false_iff_not]
  intro z
  have := nd_inj h.nd (show i < n by have := h.lt; omega) h.lt ((qk_inj z).trans h.eq)
  omega
theorem meets_eq (hs : Sz ins outs) (hM : GM ins outs S) (hB : GB ins outs B) (g : Bag) : ∃ n j, Back ins S B n j ∧ r_meets [encM ins outs S, encB ins outs B] g = .ok (lassoOf ins S B n j) g := by
  obtain ⟨env', g', h1, n, j, x6, x7, x8, x9, hb, rfl, rfl⟩ := meet_loop hs hM hB g
  refine ⟨n, j, hb, fnD_ok (env := [some (encM ins outs S), some (encB ins outs B), none, none, none, none, none, none, none, none]) rfl ?_⟩
  have k1 := machine_ok hs hM
  have k2 := breaker_ok hs hB
  unfold s_meets
  have e1 : ifS (notT (valT (fnE r_is_machine (consA (varE 0) nilA) p_is_machine.length))) (raiseS 0 (cE (.int 0))) nxS [some (encM ins outs S), some (encB ins outs B), none, none, none, none, none, none, none, none] = M.ret (.nx [some (encM ins outs S), some (encB ins outs B), none, none, none, none, none, none, none, none]) := by simp [k1]
  rw [seqS_of e1]
  have e2 : ifS (orT (notT (valT (fnE r_is_breaker (consA (varE 1) nilA) p_is_breaker.length))) (valT (bin2 neVD (slE (varE 1) (someP (cE (.int 1))) (someP (cE (.int 3)))) (slE (varE 0) (someP (cE (.int 1))) (someP (cE (.int 3))))))) (raiseS 0 (cE (.int 1))) nxS [some (encM ins outs S), some (encB ins outs B), none, none, none, none, none, none, none, none] = M.ret (.nx [some (encM ins outs S), some (encB ins outs B), none, none, none, none, none, none, none, none]) := by
    have c1 : slD (encB ins outs B) (some 1) (some 3) = some (.tup [.int ins, .int outs]) := rfl
    have c2 : slD (encM ins outs S) (some 1) (some 3) = some (.tup [.int ins, .int outs]) := rfl
    have c3 : neVD (.tup [.int ins, .int outs]) (.tup [.int ins, .int outs]) = some (.bl false) := neVD_pl rfl rfl (by simp [toPy, toPys, PyData.depth, PyData.depthAll]) true (by simp)
    simp [k2, c1, c2, c3]
  rw [seqS_of e2]
  have e3 : asgH [] 2 (bin2 ixD (varE 0) (cE (.int 1))) [some (encM ins outs S), some (encB ins outs B), none, none, none, none, none, none, none, none] = M.ret (.nx [some (encM ins outs S), some (encB ins outs B), some (.int ins), none, none, none, none, none, none, none]) := asgH_of rfl
  rw [seqS_of e3]
  have e4 : asgH [] 3 (tupE (consA (cE (.int 0)) (consA (cE (.int 0)) nilA))) [some (encM ins outs S), some (encB ins outs B), some (.int ins), none, none, none, none, none, none, none] = M.ret (.nx [some (encM ins outs S), some (encB ins outs B), some (.int ins), some (encP (0, 0)), none, none, none, none, none, none]) := asgH_of rfl
  rw [seqS_of e4]
  have e5 : asgNH [] 4 newT [some (encM ins outs S), some (encB ins outs B), some (.int ins), some (encP (0, 0)), none, none, none, none, none, none] = M.ret (.nx [some (encM ins outs S), some (encB ins outs B), some (.int ins), some (encP (0, 0)), some (.dT [] []), none, none, none, none, none]) := asgNH_of rfl
  rw [seqS_of e5]
  have e6 : asgH [4] 5 (tupE nilA) [some (encM ins outs S), some (encB ins outs B), some (.int ins), some (encP (0, 0)), some (.dT [] []), none, none, none, none, none] = M.ret (.nx [some (encM ins outs S), some (encB ins outs B), some (.int ins), some (encP (0, 0)), some (.dT [] []), some (.tup []), none, none, none, none]) := asgH_of rfl
  rw [seqS_of e6, seqS_ok h1]
  have hget := get_dT (kS ins S B) vS (List.range n) (encP (sq ins S B n)) _ (pair_key _)
  rw [find_back hb] at hget
  have hl : j ≤ (((List.range n).map (sl ins S B)).map nI).length := by
    have := hb.lt
    simp
    omega
  have c1 := cut_to (((List.range n).map (sl ins S B)).map nI) j hl
  have c2 := cut_from (((List.range n).map (sl ins S B)).map nI) j hl
  have s1 : slD (.tup (((List.range n).map (sl ins S B)).map nI)) none (some (j : Int)) = some (.tup ((((List.range n).map (sl ins S B)).take j).map nI)) := by
    show some (D.tup (VC.cutD _ _ _)) = _
    rw [c1, List.map_take]
  have s2 : slD (.tup (((List.range n).map (sl ins S B)).map nI)) (some (j : Int)) none = some (.tup ((((List.range n).map (sl ins S B)).drop j).map nI)) := by
    show some (D.tup (VC.cutD _ _ _)) = _
    rw [c2, List.map_drop]
  refine retS_at ?_
  show tupE _ _ _ = _
  simp only [tupE_eq, consA_eq, nilA_eq, cE_eq, slE_eq, varE_eq, noP_eq, someP_eq, bin2_eq, bnd_ret, bnd_assoc, List.getElem?_cons_zero, List.getElem?_cons_succ, Option.bind_some, id, ofO_someM, hget, Option.map_some, vS, s1, s2]
  rfl
end
end K66

/-! K66m: the law's own meeting. -/
namespace K66
open PySem PySem.Spec L2 RZ VC
open PyProof.Rows hiding St

section
variable {ins outs : Nat} {S : List MRow} {B : List BRow}
theorem pl_encP (x : Nat × Nat) : pl (encP x) = true := rfl
theorem encP_inj {x y : Nat × Nat} (h : encP x = encP y) : x = y := by
  unfold encP at h
  injection h with h
  injection h with h1 h2
  injection h2 with h2 _
  injection h1 with h1
  injection h2 with h2
  exact Prod.ext (by omega) (by omega)
theorem pls_encP (as : List (Nat × Nat)) : pls (as.map encP) = true := pls_of fun a h => by
  obtain ⟨x, _, rfl⟩ := List.mem_map.mp h
  rfl
theorem depth_encP (x : Nat × Nat) : (toPy (encP x)).depth = 1 := by simp [encP, toPy, toPys, PyData.depth, PyData.depthAll]
theorem mem_encP {x : Nat × Nat} {as : List (Nat × Nat)} : encP x ∈ as.map encP ↔ x ∈ as := by
  rw [List.mem_map]
  constructor
  · rintro ⟨y, h, e⟩
    exact encP_inj e ▸ h
  · exact fun h => ⟨x, h, rfl⟩
def mS (ins : Nat) (S : List MRow) (B : List BRow) (outs n : Nat) (x6 x7 x8 x9 x10 : Option D) : Slots :=
  [some (encM ins outs S), some (encB ins outs B), some (.int ins), some (.lst (((List.range n).map (sq ins S B)).map encP)), some (.lst (((List.range n).map (sl ins S B)).map nI)), some (encP (sq ins S B n)), x6, x7, x8, x9, x10, none]
theorem meeting_turn (hs : Sz ins outs) (hM : GM ins outs S) (hB : GB ins outs B) {n : Nat} (hn : n ≤ 100) (x6 x7 x8 x9 x10 : Option D) (hin : sq ins S B n ∉ (List.range n).map (sq ins S B)) : ∃ y7 y8 y9 y10, b_law_meeting1 (mS ins S B outs n x6 x7 x8 x9 x10) = M.ret (.nx (mS ins S B outs (n + 1) x6 y7 y8 y9 y10)) := by
  obtain ⟨a1, a2⟩ := sq_in hM hB n
  obtain ⟨b, r, q, t, e1, e2, e3, e4, e5, g1, q1, q2, ht⟩ := mt_at hM hB a1 a2
  have i2 := hs.i
  have o2 := pw_le hs.o
  have p1 : atI (B.map encBR) ((sq ins S B n).2 : Int) = some (encBR b) := by rw [VC.atI_nat, List.getElem?_map, e1]; rfl
  have p2 : atI (S.map encR) ((sq ins S B n).1 : Int) = some (encR r) := by rw [VC.atI_nat, List.getElem?_map, e2]; rfl
  have p3 : atI (r.map encP) (b.1 : Int) = some (encP q) := by rw [VC.atI_nat, List.getElem?_map, e3]; rfl
  have p4 : atI (b.2.map nI) (q.1 : Int) = some (nI t) := by rw [VC.atI_nat, List.getElem?_map, e4]; rfl
  have hsh := shl_nat q.1 ins (by omega) (by omega)
  push_cast at hsh
  have hq : sq ins S B (n + 1) = (q.2, t) := by show (mt ins S B (sq ins S B n)).2 = _; rw [e5]
  have hl : sl ins S B n = b.1 + q.1 * 2 ^ ins := by show (mt ins S B (sq ins S B n)).1 = _; rw [e5]
  refine ⟨some (.int b.1), some (.tup (b.2.map nI)), some (.int q.1), some (.int q.2), ?_⟩
  unfold mS
  rw [range_snoc (sq ins S B), range_snoc (sl ins S B), hq, hl]
  have hlen1 : (((List.range n).map (sq ins S B)).map encP).length = n := by simp
  have hlen2 : (((List.range n).map (sl ins S B)).map nI).length = n := by simp
  have hni := inS_lst (k := encP (sq ins S B n)) (as := ((List.range n).map (sq ins S B)).map encP) rfl (by rw [depth_encP]; decide) (pls_encP _) false (by simp only [Bool.false_eq_true, false_iff]; exact fun z => hin (mem_encP.mp z))
  rw [List.map_append, List.map_append]
  generalize ((List.range n).map (sq ins S B)).map encP = ps at hlen1 hni
  generalize ((List.range n).map (sl ins S B)).map nI = ls at hlen2
  generalize sq ins S B n = x at *
  unfold b_law_meeting1
  have f1 : ifS (valT (bin2 inSD (varE 5) (varE 3))) brkS nxS [some (encM ins outs S), some (encB ins outs B), some (.int ins), some (.lst ps), some (.lst ls), some (encP x), x6, x7, x8, x9, x10, none] = M.ret (.nx [some (encM ins outs S), some (encB ins outs B), some (.int ins), some (.lst ps), some (.lst ls), some (encP x), x6, x7, x8, x9, x10, none]) := by simp [hni]
  rw [seqS_of f1]
  have f2 : appH [3, 4] 3 (varE 5) [some (encM ins outs S), some (encB ins outs B), some (.int ins), some (.lst ps), some (.lst ls), some (encP x), x6, x7, x8, x9, x10, none] = M.ret (.nx [some (encM ins outs S), some (encB ins outs B), some (.int ins), some (.lst (ps ++ [encP x])), some (.lst ls), some (encP x), x6, x7, x8, x9, x10, none]) := appH_of (xs := ps) rfl rfl (by unfold line; omega)
  rw [seqS_of f2]
  have f3 : unpH [3, 4] (tupB 2 (consB (nameB 7) (consB (nameB 8) nilB))) (bin2 ixD (bin2 ixD (varE 1) (cE (.int 3))) (bin2 ixD (varE 5) (cE (.int 1)))) [some (encM ins outs S), some (encB ins outs B), some (.int ins), some (.lst (ps ++ [encP x])), some (.lst ls), some (encP x), x6, x7, x8, x9, x10, none] = M.ret (.nx [some (encM ins outs S), some (encB ins outs B), some (.int ins), some (.lst (ps ++ [encP x])), some (.lst ls), some (encP x), x6, some (.int b.1), some (.tup (b.2.map nI)), x9, x10, none]) := by
    simp [encB, encP, p1, encBR]
  rw [seqS_of f3]
  have f4 : unpH [3, 4] (tupB 2 (consB (nameB 9) (consB (nameB 10) nilB))) (bin2 ixD (bin2 ixD (bin2 ixD (varE 0) (cE (.int 3))) (bin2 ixD (varE 5) (cE (.int 0)))) (varE 7)) [some (encM ins outs S), some (encB ins outs B), some (.int ins), some (.lst (ps ++ [encP x])), some (.lst ls), some (encP x), x6, some (.int b.1), some (.tup (b.2.map nI)), x9, x10, none] = M.ret (.nx [some (encM ins outs S), some (encB ins outs B), some (.int ins), some (.lst (ps ++ [encP x])), some (.lst ls), some (encP x), x6, some (.int b.1), some (.tup (b.2.map nI)), some (.int q.1), some (.int q.2), none]) := by
    have p3' : atI (r.map encP) (b.1 : Int) = some (.tup [.int q.1, .int q.2]) := p3
    simp [encM, encP, p2, encR] at p3' ⊢
    simp [p3']
  rw [seqS_of f4]
  have f5 : appH [3, 4] 4 (bin2 addD (varE 7) (bin2 shlD (varE 9) (varE 2))) [some (encM ins outs S), some (encB ins outs B), some (.int ins), some (.lst (ps ++ [encP x])), some (.lst ls), some (encP x), x6, some (.int b.1), some (.tup (b.2.map nI)), some (.int q.1), some (.int q.2), none] = M.ret (.nx [some (encM ins outs S), some (encB ins outs B), some (.int ins), some (.lst (ps ++ [encP x])), some (.lst (ls ++ [nI (b.1 + q.1 * 2 ^ ins)])), some (encP x), x6, some (.int b.1), some (.tup (b.2.map nI)), some (.int q.1), some (.int q.2), none]) := by
    refine (appH_of (xs := ls) (d := nI (b.1 + q.1 * 2 ^ ins)) rfl ?_ (by unfold line; omega)).trans rfl
    simp [hsh, nI]
  rw [seqS_of f5]
  refine (asgH_of (d := encP (q.2, t)) ?_).trans rfl
  simp [p4]
  rfl
theorem meeting_stop {n : Nat} (x6 x7 x8 x9 x10 : Option D) (hin : sq ins S B n ∈ (List.range n).map (sq ins S B)) : b_law_meeting1 (mS ins S B outs n x6 x7 x8 x9 x10) = M.ret (.brk (mS ins S B outs n x6 x7 x8 x9 x10)) := by
  have hni := inS_lst (k := encP (sq ins S B n)) (as := ((List.range n).map (sq ins S B)).map encP) rfl (by rw [depth_encP]; decide) (pls_encP _) true (by simp only [true_iff]; exact mem_encP.mpr hin)
  unfold mS b_law_meeting1
  generalize ((List.range n).map (sq ins S B)).map encP = ps at hni
  have f1 : ifS (valT (bin2 inSD (varE 5) (varE 3))) brkS nxS [some (encM ins outs S), some (encB ins outs B), some (.int ins), some (.lst ps), some (.lst (((List.range n).map (sl ins S B)).map nI)), some (encP (sq ins S B n)), x6, x7, x8, x9, x10, none] = M.ret (.brk [some (encM ins outs S), some (encB ins outs B), some (.int ins), some (.lst ps), some (.lst (((List.range n).map (sl ins S B)).map nI)), some (encP (sq ins S B n)), x6, x7, x8, x9, x10, none]) := by
    rw [ifS_of (c := true) (valT_of (bin2_of (x := encP (sq ins S B n)) (y := .lst ps) rfl rfl hni)), if_pos rfl]
    rfl
  rw [seqS_eq, f1, bnd_ret]
theorem meeting_loop (hs : Sz ins outs) (hM : GM ins outs S) (hB : GB ins outs B) : ∀ (ds : List D) (n : Nat), 17 ≤ n + ds.length → ((List.range n).map (sq ins S B)).Nodup → ∀ (x6 x7 x8 x9 x10 : Option D), ∃ (n' j : Nat) (y6 y7 y8 y9 y10 : Option D), Back ins S B n' j ∧ forGo [3, 4] (nameB 6) b_law_meeting1 ds (mS ins S B outs n x6 x7 x8 x9 x10) = M.ret (.nx (mS ins S B outs n' y6 y7 y8 y9 y10))
  | [], n, h, nd, _, _, _, _, _ => by
    have := few hM hB nd
    simp at h
    omega
  | d :: ds, n, h, nd, x6, x7, x8, x9, x10 => by
    have hn := few hM hB nd
    rw [forGo_cons (l := [(6, d)]) rfl rfl]
    show ∃ (n' j : Nat) (y6 y7 y8 y9 y10 : Option D), Back ins S B n' j ∧ M.bnd (b_law_meeting1 (mS ins S B outs n (some d) x7 x8 x9 x10)) _ = _
    by_cases hin : sq ins S B n ∈ (List.range n).map (sq ins S B)
    · obtain ⟨j, hj⟩ := back_of nd hin
      exact ⟨n, j, some d, x7, x8, x9, x10, hj, by rw [meeting_stop (some d) x7 x8 x9 x10 hin, bnd_ret]; rfl⟩
    · obtain ⟨y7, y8, y9, y10, ht⟩ := meeting_turn hs hM hB (n := n) (by omega) (some d) x7 x8 x9 x10 hin
      obtain ⟨n', j, z6, z7, z8, z9, z10, hb, ih⟩ := meeting_loop hs hM hB ds (n + 1) (by rw [List.length_cons] at h; omega) (by rw [range_snoc]; exact nodup_snoc nd hin) (some d) y7 y8 y9 y10
      exact ⟨n', j, z6, z7, z8, z9, z10, hb, by rw [ht, bnd_ret]; exact ih⟩
theorem canLay_encP : ∀ as : List (Nat × Nat), PyData.canLayAll0 (toPys (as.map encP)) = true ∧ PyData.depthAll (toPys (as.map encP)) ≤ 1
  | [] => ⟨rfl, Nat.zero_le _⟩
  | x :: as => by
    obtain ⟨h1, h2⟩ := canLay_encP as
    have h3 := depth_encP x
    refine ⟨?_, ?_⟩
    · simp [toPys, PyData.canLayAll0, h1]
      simp [encP, toPy, toPys, PyData.canLay0, PyData.canLayAll0]
    · show max (toPy (encP x)).depth (PyData.depthAll (toPys (as.map encP))) ≤ 1
      rw [h3]
      exact Nat.max_le.mpr ⟨Nat.le_refl _, h2⟩
theorem law_meeting_eq (hs : Sz ins outs) (hM : GM ins outs S) (hB : GB ins outs B) : ∃ n j, Back ins S B n j ∧ r__law_meeting [encM ins outs S, encB ins outs B] = M.ret (lassoOf ins S B n j) := by
  obtain ⟨n, j, y6, y7, y8, y9, y10, hb, h1⟩ := meeting_loop hs hM hB (rngD 0 40) 0 (by rw [rngD_length]; decide) List.nodup_nil none none none none none
  refine ⟨n, j, hb, ?_⟩
  have hn := few hM hB hb.nd
  have hl : j ≤ (((List.range n).map (sl ins S B)).map nI).length := by
    have := hb.lt
    simp
    omega
  have c1 := cut_to (((List.range n).map (sl ins S B)).map nI) j hl
  have c2 := cut_from (((List.range n).map (sl ins S B)).map nI) j hl
  have s1 : slD (.lst (((List.range n).map (sl ins S B)).map nI)) none (some (j : Int)) = some (.lst ((((List.range n).map (sl ins S B)).take j).map nI)) := by
    show some (D.lst (VC.cutD _ _ _)) = _
    rw [c1, List.map_take]
  have s2 : slD (.lst (((List.range n).map (sl ins S B)).map nI)) (some (j : Int)) none = some (.lst ((((List.range n).map (sl ins S B)).drop j).map nI)) := by
    show some (D.lst (VC.cutD _ _ _)) = _
    rw [c2, List.map_drop]
  have hidx : idxO (((List.range n).map (sq ins S B)).map encP) (encP (sq ins S B n)) = some (.int (j : Int)) := by
    obtain ⟨l1, l2⟩ := canLay_encP ((List.range n).map (sq ins S B))
    refine idx_lst rfl (pls_encP _) ?_ ?_ (nodup_map (fun x y e => encP_inj e) hb.nd) ?_
    · have d1 : (PyData.list (toPys (((List.range n).map (sq ins S B)).map encP))).depth ≤ 64 := by
        show PyData.depthAll _ + 1 ≤ 64
        omega
      unfold SeqAt.shaped
      rw [decide_eq_true d1, Bool.and_true]
      exact l1
    · unfold SeqAt.shaped
      rw [depth_encP]
      simp [encP, toPy, toPys, PyData.canLay0, PyData.canLayAll0]
    · rw [List.getElem?_map, List.getElem?_map, List.getElem?_range hb.lt, hb.eq]
      rfl
  funext g
  refine fnD_ok (env := [some (encM ins outs S), some (encB ins outs B), none, none, none, none, none, none, none, none, none, none]) rfl ?_
  unfold s__law_meeting
  have e1 : asgH [] 2 (bin2 ixD (varE 0) (cE (.int 1))) [some (encM ins outs S), some (encB ins outs B), none, none, none, none, none, none, none, none, none, none] = M.ret (.nx [some (encM ins outs S), some (encB ins outs B), some (.int ins), none, none, none, none, none, none, none, none, none]) := asgH_of rfl
  rw [seqS_of e1]
  have e2 : asgNH [] 3 (lstE nilA) [some (encM ins outs S), some (encB ins outs B), some (.int ins), none, none, none, none, none, none, none, none, none] = M.ret (.nx [some (encM ins outs S), some (encB ins outs B), some (.int ins), some (.lst []), none, none, none, none, none, none, none, none]) := asgNH_of rfl
  rw [seqS_of e2]
  have e3 : asgNH [3] 4 (lstE nilA) [some (encM ins outs S), some (encB ins outs B), some (.int ins), some (.lst []), none, none, none, none, none, none, none, none] = M.ret (.nx [some (encM ins outs S), some (encB ins outs B), some (.int ins), some (.lst []), some (.lst []), none, none, none, none, none, none, none]) := asgNH_of rfl
  rw [seqS_of e3]
  have e4 : asgH [3, 4] 5 (tupE (consA (cE (.int 0)) (consA (cE (.int 0)) nilA))) [some (encM ins outs S), some (encB ins outs B), some (.int ins), some (.lst []), some (.lst []), none, none, none, none, none, none, none] = M.ret (.nx (mS ins S B outs 0 none none none none none)) := asgH_of rfl
  rw [seqS_of e4]
  have e5 : forH [3, 4] (rng1I (consA (cE (.int 40)) nilA)) (nameB 6) b_law_meeting1 (mS ins S B outs 0 none none none none none) = M.ret (.nx (mS ins S B outs n y6 y7 y8 y9 y10)) := by
    rw [forH_of (rng1_nat (k := 40) rfl (by decide))]
    exact h1
  rw [seqS_of e5]
  have e6 : asgF 11 (idxE (varE 3) (varE 5)) (mS ins S B outs n y6 y7 y8 y9 y10) = M.ret (.nx ((mS ins S B outs n y6 y7 y8 y9 y10).set 11 (some (.int j)))) := by
    rw [asgF_eq]
    have : idxE (varE 3) (varE 5) (mS ins S B outs n y6 y7 y8 y9 y10) = M.ret (.int (j : Int)) := by
      unfold idxE mS
      show M.ofO (idxO _ _) = _
      rw [hidx]
      rfl
    rw [this, bnd_ret]
    rfl
  rw [seqS_of e6]
  refine retS_at ?_
  unfold mS
  simp only [tupE_eq, consA_eq, nilA_eq, cE_eq, slE_eq, varE_eq, noP_eq, someP_eq, callE_eq, bnd_ret, bnd_assoc, List.getElem?_cons_zero, List.getElem?_cons_succ, List.set_cons_zero, List.set_cons_succ, Option.bind_some, id, ofO_someM, s1, s2, tupL_lst]
  rfl
end
/-- the lasso is one that both follow -/
theorem go_range {ins : Nat} {d : Dev} {f : Nat → Nat} {c : Nat → Nat} (h : ∀ n, d.step ins (c n) (f n) = some (c (n + 1))) : ∀ (k n : Nat), d.go ins (some (c n)) ((List.range k).map fun i => f (n + i)) = some (c (n + k))
  | 0, n => rfl
  | k + 1, n => by
    rw [range_snoc, Dev.go_append, go_range h k n]
    show d.step ins (c (n + k)) (f (n + k)) = _
    rw [h]
    rfl
end K66

/-! K66n: one pass of classes_of. -/
namespace K66
open PySem PySem.Spec L2 RZ VC
open PyProof.Rows hiding St

abbrev Ky := Nat × List (Nat × Nat)
def nk (k : Ky) : NestedKey := .tup [.num k.1, .tup (k.2.map fun q => .tup [.num q.1, .num q.2])]
def encK (k : Ky) : D := .tup [.int k.1, .tup (k.2.map encP)]
theorem nk_inj (x y : Ky) (h : nk x = nk y) : x = y := by
  unfold nk at h
  injection h with h
  injection h with h1 h2
  injection h2 with h2 _
  injection h1 with h1
  injection h2 with h2
  obtain ⟨a, r⟩ := x
  obtain ⟨b, s⟩ := y
  have hl : ∀ (r s : List (Nat × Nat)), (r.map fun q : Nat × Nat => NestedKey.tup [.num q.1, .num q.2]) = (s.map fun q : Nat × Nat => NestedKey.tup [.num q.1, .num q.2]) → r = s := by
    intro r
    induction r with
    | nil =>
      intro s h
      cases s with
      | nil => rfl
      | cons _ _ => cases h
    | cons p r ih =>
      intro s h
      cases s with
      | nil => cases h
      | cons q s =>
        rw [List.map_cons, List.map_cons] at h
        injection h with e1 e2
        injection e1 with e1
        injection e1 with a1 a2
        injection a2 with a2 _
        injection a1 with a1
        injection a2 with a2
        rw [ih s e2, show p = q from Prod.ext (by omega) (by omega)]
  rw [hl r s h2, show a = b by simp only at h1; omega]
theorem keyNs_encP : ∀ r : List (Nat × Nat), keyNs (r.map encP) = some (r.map fun q => .tup [.num q.1, .num q.2])
  | [] => rfl
  | q :: r => by
    rw [List.map_cons]
    unfold keyNs
    rw [keyNs_encP r]
    rfl
theorem depth_ks : ∀ r : List (Nat × Nat), NestedKey.depthAll (r.map fun q : Nat × Nat => NestedKey.tup [.num q.1, .num q.2]) ≤ 1
  | [] => Nat.zero_le _
  | q :: r => Nat.max_le.mpr ⟨by simp [NestedKey.depth, NestedKey.depthAll], depth_ks r⟩
theorem keyNT_enc (k : Ky) : keyNT (encK k) = some (nk k) := by
  have h1 : keyN (encK k) = some (nk k) := by
    show (keyNs [.int k.1, .tup (k.2.map encP)]).map _ = _
    unfold keyNs keyNs
    show ((some _).bind fun x => ((keyN (.tup (k.2.map encP))).bind fun y => _).map _).map _ = _
    have : keyN (.tup (k.2.map encP)) = some (.tup (k.2.map fun q => .tup [.num q.1, .num q.2])) := by
      show (keyNs _).map _ = _
      rw [keyNs_encP]
      rfl
    rw [this]
    rfl
  show (keyN (encK k)).bind _ = _
  rw [h1]
  show (if _ then _ else _) = _
  rw [if_pos]
  have := depth_ks k.2
  simp only [nk, NestedKey.depth, NestedKey.depthAll]
  omega
def poss (n : Nat) : List D := (List.range n).map nI
theorem poss_succ (n : Nat) : poss (n + 1) = poss n ++ [nI n] := range_snoc nI n
theorem setd_at {ρo ρe ρf : EX} {env : Slots} {g : Bag} {N : Nat} {L : List Ky} {k : Ky} (ho : ρo env = M.ret (.cell N)) (hc : g.cs[N]? = some (.dN (L.map nk) (poss L.length))) (he : ρe env = M.ret (encK k)) (hf : ρf env g = .ok (nI L.length) g) (hl : L.length < line) :
    (k ∈ L → ∃ p, L[p]? = some k ∧ setdE ρo ρe ρf env g = .ok (nI p) g) ∧ (k ∉ L → setdE ρo ρe ρf env g = .ok (nI L.length) ⟨g.b, g.cs.set N (.dN ((L ++ [k]).map nk) (poss (L ++ [k]).length))⟩) := by
  have hp := posX nk_inj k L nI 0
  simp only [Nat.zero_add] at hp
  have e0 : setdE ρo ρe ρf env g = setdM N (encK k) (nI L.length) g := by
    unfold setdE
    rw [ho, bnd_ret]
    have h1 : chkD (.cell N) g = .ok N g := by
      show (match g.cs[N]? with | some c => _ | none => _) = _
      rw [hc]
      rfl
    rw [bnd_okM h1, he, bnd_ret, bnd_okM hf]
  have e1 : g.cs[N]?.bind (fun c => setdC c (encK k) (nI L.length)) = some (match valX (L.map nk) (poss L.length) (nk k) with
    | some v => (v, none)
    | none => (nI L.length, some (.dN (L.map nk ++ [nk k]) (poss L.length ++ [nI L.length])))) := by
    rw [hc]
    show (keyNT (encK k)).bind _ = _
    rw [keyNT_enc]
    show (if _ then _ else _) = _
    rw [if_pos (by rw [List.length_map]; exact hl)]
    all_goals (cases valX (L.map nk) (poss L.length) (nk k) <;> rfl)
  refine ⟨fun hk => ?_, fun hk => ?_⟩
  · obtain ⟨p, h1, h2⟩ := hp.1 hk
    refine ⟨p, h1, ?_⟩
    rw [e0]
    show (match g.cs[N]?.bind (fun c => setdC c (encK k) (nI L.length)) with | some (v, none) => _ | some (v, some c) => _ | none => _) = _
    rw [e1, show poss L.length = (List.range L.length).map nI from rfl, h2]
  · rw [e0]
    show (match g.cs[N]?.bind (fun c => setdC c (encK k) (nI L.length)) with | some (v, none) => _ | some (v, some c) => _ | none => _) = _
    rw [e1, show poss L.length = (List.range L.length).map nI from rfl, hp.2 hk]
    show (if flat (nI L.length) = true then _ else _) = _
    rw [if_pos (show flat (nI L.length) = true from rfl), List.map_append, List.length_append, List.length_singleton, poss_succ]
    rfl
/-! ### a pass -/
def fAt (F : List Nat) (i : Nat) : Nat := (F[i]?).getD 0
def keyOf (S : List MRow) (F : List Nat) (i : Nat) : Ky := (fAt F i, ((S[i]?).getD []).map fun q => (q.1, fAt F q.2))
structure Pass (S : List MRow) (F : List Nat) (N : Nat) (b0 : Int × Int × Int) (n : Nat) (L : List Ky) (ps : List Nat) (g : Bag) : Prop where
  nd : L.Nodup
  len : ps.length = n
  few : L.length ≤ n
  at_ : ∀ i, i < n → ∃ p, ps[i]? = some p ∧ L[p]? = some (keyOf S F i)
  onto : ∀ p, p < L.length → ∃ i, i < n ∧ ps[i]? = some p
  cell : g.cs[N]? = some (.dN (L.map nk) (poss L.length))
  b : g.b = b0
theorem fAt_ix {F : List Nat} {i : Nat} (h : i < F.length) : atI (F.map nI) (i : Int) = some (.int (fAt F i)) := by
  rw [VC.atI_nat, List.getElem?_map]
  unfold fAt
  rw [List.getElem?_eq_getElem h]
  rfl
theorem pass_turn {ins outs : Nat} {S : List MRow} (h : GM ins outs S) {F : List Nat} (hF : F.length = S.length) {N : Nat} {b0 : Int × Int × Int} {n : Nat} (hn : n < S.length) (hw : 2 ^ ins ≤ 4) {L : List Ky} {ps : List Nat} {g : Bag} (P : Pass S F N b0 n L ps g) {r : MRow} (hr : S[n]? = some r) (x2 x7 x8 x9 : Option D) :
    ∃ L' p y7 g', b_classes_of2 [some (.tup (S.map encR)), some (.lst (F.map nI)), x2, some (.cell N), some (.lst (ps.map nI)), some (.int n), some (encR r), x7, x8, x9] g = .ok (.nx [some (.tup (S.map encR)), some (.lst (F.map nI)), x2, some (.cell N), some (.lst ((ps ++ [p]).map nI)), some (.int n), some (encR r), y7, x8, x9]) g' ∧ Pass S F N b0 (n + 1) L' (ps ++ [p]) g' := by
  have l4 := h.l4
  have hrm := List.mem_of_getElem? hr
  have hrl := h.w r hrm
  have hk : keyOf S F n = (fAt F n, r.map fun q => (q.1, fAt F q.2)) := by unfold keyOf; rw [hr]; rfl
  have he : e_classes_of1 (hide [4] [some (.tup (S.map encR)), some (.lst (F.map nI)), x2, some (.cell N), some (.lst (ps.map nI)), some (.int n), some (encR r), x7, x8, x9]) = M.ret (.lst ((r.map fun q => (q.1, fAt F q.2)).map encP)) := by
    unfold e_classes_of1
    rw [lc_runA encP (fun q => encP (q.1, fAt F q.2)) r (by simp [encR]) (by rw [hrl]; exact Nat.le_trans hw (by decide)) fun q hq => ⟨[(8, .int q.1), (9, .int q.2)], rfl, by
      have := fAt_ix (F := F) (i := q.2) (by rw [hF]; exact (h.e r hrm q hq).2)
      simp [this, encP]⟩, List.map_map]
    rfl
  have h1 : asgH [4] 7 (tupE (consA (bin2 ixD (varE 1) (varE 5)) (consA (callE tupL (consA e_classes_of1 nilA)) nilA))) [some (.tup (S.map encR)), some (.lst (F.map nI)), x2, some (.cell N), some (.lst (ps.map nI)), some (.int n), some (encR r), x7, x8, x9] = M.ret (.nx [some (.tup (S.map encR)), some (.lst (F.map nI)), x2, some (.cell N), some (.lst (ps.map nI)), some (.int n), some (encR r), some (encK (keyOf S F n)), x8, x9]) := by
    refine (asgH_of (d := encK (keyOf S F n)) ?_).trans rfl
    have := fAt_ix (F := F) (i := n) (by omega)
    rw [hk]
    refine tup2_of (bin2_of (x := .lst (F.map nI)) (y := .int n) rfl rfl this) (call1_of he ?_)
    rfl
  have hst := setd_at (ρo := varE 3) (ρe := varE 7) (ρf := callM lenM (consA (varE 3) nilA)) (env := hide [4] [some (.tup (S.map encR)), some (.lst (F.map nI)), x2, some (.cell N), some (.lst (ps.map nI)), some (.int n), some (encR r), some (encK (keyOf S F n)), x8, x9]) (g := g) (k := keyOf S F n) rfl P.cell rfl (by
    have := lenM_dN P.cell
    rw [List.length_map] at this
    exact this) (by have := P.few; unfold line; omega)
  have happ : ∀ (d : Nat) (g' : Bag), setdE (varE 3) (varE 7) (callM lenM (consA (varE 3) nilA)) (hide [4] [some (.tup (S.map encR)), some (.lst (F.map nI)), x2, some (.cell N), some (.lst (ps.map nI)), some (.int n), some (encR r), some (encK (keyOf S F n)), x8, x9]) g = .ok (nI d) g' →
      b_classes_of2 [some (.tup (S.map encR)), some (.lst (F.map nI)), x2, some (.cell N), some (.lst (ps.map nI)), some (.int n), some (encR r), x7, x8, x9] g = .ok (.nx [some (.tup (S.map encR)), some (.lst (F.map nI)), x2, some (.cell N), some (.lst ((ps ++ [d]).map nI)), some (.int n), some (encR r), some (encK (keyOf S F n)), x8, x9]) g' := fun d g' hd => by
    unfold b_classes_of2
    rw [seqS_of h1]
    refine (appH_at (xs := ps.map nI) rfl hd (by rw [List.length_map, P.len]; unfold line; omega)).trans ?_
    rw [List.map_append]
    rfl
  by_cases hin : keyOf S F n ∈ L
  · obtain ⟨p, e1, e2⟩ := hst.1 hin
    refine ⟨L, p, _, g, happ p g e2, P.nd, by rw [List.length_append, P.len]; rfl, by have := P.few; omega, fun i hi => ?_, fun q hq => ?_, P.cell, P.b⟩
    · by_cases hi2 : i < n
      · obtain ⟨p', a1, a2⟩ := P.at_ i hi2
        exact ⟨p', by rw [List.getElem?_append_left (by rw [P.len]; exact hi2)]; exact a1, a2⟩
      · have : i = n := by omega
        subst this
        exact ⟨p, by rw [List.getElem?_append_right (by rw [P.len]; omega), P.len, Nat.sub_self]; rfl, e1⟩
    · obtain ⟨i, hi, a⟩ := P.onto q hq
      exact ⟨i, by omega, by rw [List.getElem?_append_left (by rw [P.len]; exact hi)]; exact a⟩
  · have e2 := hst.2 hin
    have hN : N < g.cs.length := (List.getElem?_eq_some_iff.mp P.cell).1
    refine ⟨L ++ [keyOf S F n], L.length, _, _, happ _ _ e2, nodup_snoc P.nd hin, by rw [List.length_append, P.len]; rfl, by rw [List.length_append]; have := P.few; simp; omega, fun i hi => ?_, fun q hq => ?_, ?_, P.b⟩
    · by_cases hi2 : i < n
      · obtain ⟨p', a1, a2⟩ := P.at_ i hi2
        have := (List.getElem?_eq_some_iff.mp a2).1
        exact ⟨p', by rw [List.getElem?_append_left (by rw [P.len]; exact hi2)]; exact a1, by rw [List.getElem?_append_left this]; exact a2⟩
      · have : i = n := by omega
        subst this
        exact ⟨L.length, by rw [List.getElem?_append_right (by rw [P.len]; omega), P.len, Nat.sub_self]; rfl, by rw [List.getElem?_append_right (Nat.le_refl _), Nat.sub_self]; rfl⟩
    · rw [List.length_append, List.length_singleton] at hq
      by_cases hq2 : q < L.length
      · obtain ⟨i, hi, a⟩ := P.onto q hq2
        exact ⟨i, by omega, by rw [List.getElem?_append_left (by rw [P.len]; exact hi)]; exact a⟩
      · have : q = L.length := by omega
        subst this
        exact ⟨n, by omega, by rw [List.getElem?_append_right (by rw [P.len]; omega), P.len, Nat.sub_self]; rfl⟩
    · show (g.cs.set N _)[N]? = _
      rw [List.getElem?_set_self hN]
theorem pass_loop {ins outs : Nat} {S : List MRow} (h : GM ins outs S) {F : List Nat} (hF : F.length = S.length) {N : Nat} {b0 : Int × Int × Int} (hw : 2 ^ ins ≤ 4) (x2 x8 x9 : Option D) : ∀ (rs : List MRow) (n : Nat), n ≤ S.length → S.drop n = rs → ∀ (L : List Ky) (ps : List Nat) (g : Bag), Pass S F N b0 n L ps g → ∀ (x5 x6 x7 : Option D), ∃ L' ps' y5 y6 y7 g',
    forGo [4] (tupB 2 (consB (nameB 5) (consB (nameB 6) nilB))) b_classes_of2 (enumD n (rs.map encR)) [some (.tup (S.map encR)), some (.lst (F.map nI)), x2, some (.cell N), some (.lst (ps.map nI)), x5, x6, x7, x8, x9] g = .ok (.nx [some (.tup (S.map encR)), some (.lst (F.map nI)), x2, some (.cell N), some (.lst (ps'.map nI)), y5, y6, y7, x8, x9]) g' ∧ Pass S F N b0 S.length L' ps' g'
  | [], n, hl2, hd, L, ps, g, P, x5, x6, x7 => by
    have hl : S.length ≤ n := by
      have := congrArg List.length hd
      rw [List.length_drop] at this
      simp at this
      omega
    have : n = S.length := by omega
    subst this
    exact ⟨L, ps, x5, x6, x7, g, rfl, P⟩
  | r :: rs, n, _, hd, L, ps, g, P, x5, x6, x7 => by
    have hn : n < S.length := by
      have := congrArg List.length hd
      rw [List.length_drop] at this
      simp at this
      omega
    have hr : S[n]? = some r := by
      have := congrArg (fun l => l[0]?) hd
      simp only [List.getElem?_drop, Nat.add_zero, List.getElem?_cons_zero] at this
      exact this
    have hd2 : S.drop (n + 1) = rs := by
      rw [← List.tail_drop, hd]
      rfl
    rw [List.map_cons]
    show ∃ L' ps' y5 y6 y7 g', forGo _ _ _ (.tup [.int n, encR r] :: enumD (n + 1) (rs.map encR)) _ g = _ ∧ _
    rw [forGo_cons (l := [(5, .int n), (6, encR r)]) rfl rfl]
    obtain ⟨L', p, y7, g', h1, P'⟩ := pass_turn h hF hn hw P hr x2 x7 x8 x9
    show ∃ L' ps' y5 y6 y7 g', M.bnd (b_classes_of2 [some (.tup (S.map encR)), some (.lst (F.map nI)), x2, some (.cell N), some (.lst (ps.map nI)), some (.int n), some (encR r), x7, x8, x9]) _ g = _ ∧ _
    rw [bnd_okM h1]
    exact pass_loop h hF hw x2 x8 x9 rs (n + 1) hn hd2 L' (ps ++ [p]) g' P' _ _ _
end K66

/-! K66o: classes_of tells who answers alike for ever. -/
namespace K66
open PySem PySem.Spec L2 RZ VC
open PyProof.Rows hiding St

def at2 (S : List MRow) (i g : Nat) : Option (Nat × Nat) := S[i]?.bind fun r => r[g]?
/-- alike to all words of k inputs -/
def Alk (ins : Nat) (S : List MRow) : Nat → Nat → Nat → Prop
  | 0, _, _ => True
  | k + 1, i, j => ∀ g, g < 2 ^ ins → ∃ a b, at2 S i g = some a ∧ at2 S j g = some b ∧ a.1 = b.1 ∧ Alk ins S k a.2 b.2
section
variable {ins outs : Nat} {S : List MRow}
theorem at2_some (h : GM ins outs S) {i g : Nat} (hi : i < S.length) (hg : g < 2 ^ ins) : ∃ q, at2 S i g = some q ∧ q.1 < 2 ^ outs ∧ q.2 < S.length := by
  obtain ⟨r, q, e1, e2, h1, h2, _⟩ := row_at h hi hg
  exact ⟨q, by unfold at2; rw [e1]; exact e2, h1, h2⟩
theorem Alk.refl (h : GM ins outs S) : ∀ (k : Nat) {i : Nat}, i < S.length → Alk ins S k i i
  | 0, _, _ => trivial
  | k + 1, i, hi => fun g hg => by
    obtain ⟨q, e, _, h2⟩ := at2_some h hi hg
    exact ⟨q, q, e, e, rfl, Alk.refl h k h2⟩
theorem Alk.symm : ∀ {k : Nat} {i j : Nat}, Alk ins S k i j → Alk ins S k j i
  | 0, _, _, _ => trivial
  | k + 1, i, j, h => fun g hg => by
    obtain ⟨a, b, e1, e2, e3, e4⟩ := h g hg
    exact ⟨b, a, e2, e1, e3.symm, e4.symm⟩
theorem Alk.trans : ∀ {k : Nat} {i j l : Nat}, Alk ins S k i j → Alk ins S k j l → Alk ins S k i l
  | 0, _, _, _, _, _ => trivial
  | k + 1, i, j, l, h, h2 => fun g hg => by
    obtain ⟨a, b, e1, e2, e3, e4⟩ := h g hg
    obtain ⟨b', c, f1, f2, f3, f4⟩ := h2 g hg
    rw [e2] at f1
    cases f1
    exact ⟨a, c, e1, f2, e3.trans f3, e4.trans f4⟩
theorem Alk.less : ∀ {k : Nat} {i j : Nat}, Alk ins S (k + 1) i j → Alk ins S k i j
  | 0, _, _, _ => trivial
  | k + 1, i, j, h => fun g hg => by
    obtain ⟨a, b, e1, e2, e3, e4⟩ := h g hg
    exact ⟨a, b, e1, e2, e3, e4.less⟩
theorem Alk.le {k : Nat} {i j : Nat} : ∀ (n : Nat), Alk ins S (k + n) i j → Alk ins S k i j
  | 0, h => h
  | n + 1, h => Alk.le n (Alk.less h)
/-- once the same, always the same -/
theorem Alk.more (h : GM ins outs S) {t : Nat} (hs : ∀ i j, i < S.length → j < S.length → Alk ins S t i j → Alk ins S (t + 1) i j) : ∀ (n : Nat) {i j : Nat}, i < S.length → j < S.length → Alk ins S t i j → Alk ins S (t + n) i j
  | 0, i, j, _, _, a => a
  | n + 1, i, j, hi, hj, a => fun g hg => by
    obtain ⟨x, y, e1, e2, e3, e4⟩ := hs i j hi hj a g hg
    obtain ⟨x', f1, _, f2⟩ := at2_some h hi hg
    obtain ⟨y', f3, _, f4⟩ := at2_some h hj hg
    rw [e1] at f1
    rw [e2] at f3
    cases f1
    cases f3
    exact ⟨x, y, e1, e2, e3, Alk.more h hs n f2 f4 e4⟩
theorem key_iff (h : GM ins outs S) {F : List Nat} {t : Nat} (hF : ∀ i j, i < S.length → j < S.length → (fAt F i = fAt F j ↔ Alk ins S t i j)) {i j : Nat} (hi : i < S.length) (hj : j < S.length) : keyOf S F i = keyOf S F j ↔ Alk ins S (t + 1) i j := by
  have ei := List.getElem?_eq_getElem hi
  have ej := List.getElem?_eq_getElem hj
  have wi := h.w _ (List.getElem_mem hi)
  have wj := h.w _ (List.getElem_mem hj)
  have ki : keyOf S F i = (fAt F i, S[i].map fun q => (q.1, fAt F q.2)) := by unfold keyOf; rw [ei]; rfl
  have kj : keyOf S F j = (fAt F j, S[j].map fun q => (q.1, fAt F q.2)) := by unfold keyOf; rw [ej]; rfl
  have ai : ∀ g, at2 S i g = S[i][g]? := fun g => by unfold at2; rw [ei]; rfl
  have aj : ∀ g, at2 S j g = S[j][g]? := fun g => by unfold at2; rw [ej]; rfl
  rw [ki, kj]
  constructor
  · intro e g hg
    obtain ⟨x, f1, _, f2⟩ := at2_some h hi hg
    obtain ⟨y, f3, _, f4⟩ := at2_some h hj hg
    have e2 := congrArg (fun l => l[g]?) (Prod.mk.inj e).2
    simp only [List.getElem?_map, ← ai, ← aj, f1, f3, Option.map_some] at e2
    have e3 := Prod.mk.inj (Option.some.inj e2)
    exact ⟨x, y, f1, f3, e3.1, (hF _ _ f2 f4).mp e3.2⟩
  · intro a
    have e1 := (hF i j hi hj).mpr a.less
    rw [e1]
    congr 1
    refine List.ext_getElem? fun g => ?_
    rw [List.getElem?_map, List.getElem?_map]
    by_cases hg : g < 2 ^ ins
    · obtain ⟨x, y, f1, f2, f3, f4⟩ := a g hg
      obtain ⟨x', g1, _, g2⟩ := at2_some h hi hg
      obtain ⟨y', g3, _, g4⟩ := at2_some h hj hg
      rw [f1] at g1
      rw [f2] at g3
      cases g1
      cases g3
      rw [← ai, ← aj, f1, f2]
      show some (_, _) = some (_, _)
      rw [f3, (hF _ _ g2 g4).mpr f4]
    · rw [List.getElem?_eq_none (by omega), List.getElem?_eq_none (by omega)]
structure St (ins : Nat) (S : List MRow) (t : Nat) (F : List Nat) (many : Nat) : Prop where
  len : F.length = S.length
  alk : ∀ i j, i < S.length → j < S.length → (fAt F i = fAt F j ↔ Alk ins S t i j)
  few : many ≤ S.length
  up : ∀ i, i < S.length → fAt F i < many
  on : ∀ w, w < many → ∃ i, i < S.length ∧ fAt F i = w
theorem St.of {F : List Nat} {t N : Nat} {b0 : Int × Int × Int} {L : List Ky} {ps : List Nat} {g : Bag} (h : GM ins outs S) (hF : ∀ i j, i < S.length → j < S.length → (fAt F i = fAt F j ↔ Alk ins S t i j)) (P : Pass S F N b0 S.length L ps g) : St ins S (t + 1) ps L.length := by
  have hp : ∀ i, i < S.length → L[fAt ps i]? = some (keyOf S F i) := fun i hi => by
    obtain ⟨p, a1, a2⟩ := P.at_ i hi
    unfold fAt
    rw [a1]
    exact a2
  refine ⟨P.len, fun i j hi hj => ?_, P.few, fun i hi => (List.getElem?_eq_some_iff.mp (hp i hi)).1, fun w hw => ?_⟩
  · rw [← key_iff h hF hi hj]
    constructor
    · intro e
      have h1 := hp i hi
      rw [e, hp j hj] at h1
      exact (Option.some.inj h1).symm
    · intro e
      have h1 := hp i hi
      have h2 := hp j hj
      rw [e] at h1
      obtain ⟨l1, e1⟩ := List.getElem?_eq_some_iff.mp h1
      obtain ⟨l2, e2⟩ := List.getElem?_eq_some_iff.mp h2
      by_cases hne : fAt ps i = fAt ps j
      · exact hne
      · exfalso
        rcases Nat.lt_or_gt_of_ne hne with hh | hh
        · exact List.pairwise_iff_getElem.mp P.nd _ _ l1 l2 hh (e1.trans e2.symm)
        · exact List.pairwise_iff_getElem.mp P.nd _ _ l2 l1 hh (e2.trans e1.symm)
  · obtain ⟨i, hi, a⟩ := P.onto w hw
    exact ⟨i, hi, by unfold fAt; rw [a]; rfl⟩
theorem classes_loop (hs : Sz ins outs) (h : GM ins outs S) (g : Bag) (hb : b0 = g.b) : ∃ r g', whileS (valT (cE (.bl true))) b_classes_of3 [some (.tup (S.map encR)), some (.lst ((List.replicate S.length 0).map nI)), some (.int 0), none, none, none, none, none, none, none] g = .ok (.rt r) g' ∧
    ∃ c : List Nat, r = .lst (c.map nI) ∧ g'.b = b0 ∧ c.length = S.length ∧ (∀ i j, i < S.length → j < S.length → (fAt c i = fAt c j ↔ Alk ins S S.length i j)) ∧ ∀ i j, i < S.length → j < S.length → Alk ins S S.length i j → Alk ins S (S.length + 1) i j := by
  have hw := pw_le hs.i
  have l4 := h.l4
  have l1 := h.l1
  refine while_ret (fun μ env g => g.b = b0 ∧ ∃ t F many x3 x4 x5 x6 x7 x8 x9, env = [some (.tup (S.map encR)), some (.lst (F.map nI)), some (.int ((many : Nat) : Int)), x3, x4, x5, x6, x7, x8, x9] ∧ μ + t = S.length ∧ F.length = S.length ∧ (∀ i j, i < S.length → j < S.length → (fAt F i = fAt F j ↔ Alk ins S t i j)) ∧ ((t = 0 ∧ many = 0) ∨ (1 ≤ t ∧ t ≤ many ∧ St ins S t F many)))
    (fun r g' => ∃ c : List Nat, r = .lst (c.map nI) ∧ g'.b = b0 ∧ c.length = S.length ∧ (∀ i j, i < S.length → j < S.length → (fAt c i = fAt c j ↔ Alk ins S S.length i j)) ∧ ∀ i j, i < S.length → j < S.length → Alk ins S S.length i j → Alk ins S (S.length + 1) i j) ?_ S.length _ _
    ⟨hb.symm, 0, List.replicate S.length 0, 0, none, none, none, none, none, none, none, rfl, rfl, List.length_replicate, fun i j hi hj => ⟨fun _ => trivial, fun _ => by unfold fAt; rw [List.getElem?_replicate, List.getElem?_replicate, if_pos hi, if_pos hj]⟩, .inl ⟨rfl, rfl⟩⟩
  rintro μ env g ⟨hgb, t, F, many, x3, x4, x5, x6, x7, x8, x9, rfl, hμ, hF, hA, hst⟩
  refine ⟨g, rfl, ?_⟩
  have e1 : asgH [] 3 newNE [some (.tup (S.map encR)), some (.lst (F.map nI)), some (.int ((many : Nat) : Int)), x3, x4, x5, x6, x7, x8, x9] g = .ok (.nx [some (.tup (S.map encR)), some (.lst (F.map nI)), some (.int ((many : Nat) : Int)), some (.cell g.cs.length), x4, x5, x6, x7, x8, x9]) ⟨g.b, g.cs ++ [.dN [] []]⟩ := asgH_at newN_at
  have e2 : asgNH [] 4 (lstE nilA) [some (.tup (S.map encR)), some (.lst (F.map nI)), some (.int ((many : Nat) : Int)), some (.cell g.cs.length), x4, x5, x6, x7, x8, x9] = M.ret (.nx [some (.tup (S.map encR)), some (.lst (F.map nI)), some (.int ((many : Nat) : Int)), some (.cell g.cs.length), some (.lst []), x5, x6, x7, x8, x9]) := asgNH_of rfl
  have P0 : Pass S F g.cs.length b0 0 [] [] ⟨g.b, g.cs ++ [.dN [] []]⟩ := ⟨List.nodup_nil, rfl, Nat.le_refl _, fun i z => absurd z (Nat.not_lt_zero _), fun p z => absurd z (Nat.not_lt_zero _), by
    show (g.cs ++ [_])[g.cs.length]? = _
    rw [List.getElem?_append_right (Nat.le_refl _), Nat.sub_self]
    rfl, hgb⟩
  obtain ⟨L, ps, y5, y6, y7, g', e3, P⟩ := pass_loop h hF hw (some (.int ((many : Nat) : Int))) x8 x9 S 0 (Nat.zero_le _) rfl [] [] _ P0 x5 x6 x7
  have hLpos : 1 ≤ L.length := by
    obtain ⟨p, _, a2⟩ := P.at_ 0 (by omega)
    have := (List.getElem?_eq_some_iff.mp a2).1
    omega
  have e3' : forH [4] (enumTI (consA (varE 0) nilA)) (tupB 2 (consB (nameB 5) (consB (nameB 6) nilB))) b_classes_of2 [some (.tup (S.map encR)), some (.lst (F.map nI)), some (.int ((many : Nat) : Int)), some (.cell g.cs.length), some (.lst []), x5, x6, x7, x8, x9] ⟨g.b, g.cs ++ [.dN [] []]⟩ = .ok (.nx [some (.tup (S.map encR)), some (.lst (F.map nI)), some (.int ((many : Nat) : Int)), some (.cell g.cs.length), some (.lst (ps.map nI)), y5, y6, y7, x8, x9]) g' := by
    rw [forH_of (ds := enumD 0 (S.map encR)) (by simp)]
    exact e3
  have hlen : lenM [.cell g.cs.length] g' = .ok (.int ((L.length : Nat) : Int)) g' := by
    have := lenM_dN P.cell
    rw [List.length_map] at this
    exact this
  have hcl : ∀ O x, callM lenM (consA (varE 3) nilA) (hide O [some (.tup (S.map encR)), some (.lst (F.map nI)), x, some (.cell g.cs.length), some (.lst (ps.map nI)), y5, y6, y7, x8, x9]) g' = .ok (.int ((L.length : Nat) : Int)) g' ∨ O ≠ [] ∧ O ≠ [4] := fun O x => by
    by_cases h1 : O = []
    · subst h1; exact .inl hlen
    · by_cases h2 : O = [4]
      · subst h2; exact .inl hlen
      · exact .inr ⟨h1, h2⟩
  have e4 : ifS (valT (bin2 eqVD (callM lenM (consA (varE 3) nilA)) (varE 2))) (retS (varE 4)) nxS [some (.tup (S.map encR)), some (.lst (F.map nI)), some (.int ((many : Nat) : Int)), some (.cell g.cs.length), some (.lst (ps.map nI)), y5, y6, y7, x8, x9] g' = if L.length = many then .ok (.rt (.lst (ps.map nI))) g' else .ok (.nx [some (.tup (S.map encR)), some (.lst (F.map nI)), some (.int ((many : Nat) : Int)), some (.cell g.cs.length), some (.lst (ps.map nI)), y5, y6, y7, x8, x9]) g' := by
    rw [ifS_at (valT_at (bin2_at (x := .int ((L.length : Nat) : Int)) (y := .int ((many : Nat) : Int)) hlen rfl (eqVD_ii _ _)))]
    by_cases hm : L.length = many
    · rw [if_pos (by simp [hm]), if_pos hm]
      rfl
    · rw [if_neg (by simp; omega), if_neg hm]
      rfl
  unfold b_classes_of3
  by_cases hm : L.length = many
  · refine .inl ⟨_, g', by rw [seqS_ok e1, seqS_of e2, seqS_ok e3', seqS_rt (by rw [e4, if_pos hm])], ps, rfl, P.b, P.len, ?_⟩
    rcases hst with ⟨_, h0⟩ | ⟨ht, hlt, st⟩
    · omega
    have st2 := St.of h hA P
    rw [hm] at st2
    have hsame : ∀ i j, i < S.length → j < S.length → Alk ins S t i j → Alk ins S (t + 1) i j := fun i j hi hj a => by
      rw [← st2.alk i j hi hj]
      exact finer_eq st2.up st.up st.on (fun i j hi hj e => (st.alk i j hi hj).mpr ((st2.alk i j hi hj).mp e).less) hi hj ((st.alk i j hi hj).mpr a)
    have hfew := st.few
    refine ⟨fun i j hi hj => ?_, fun i j hi hj a => ?_⟩
    rotate_left
    · have a : Alk ins S (t + (S.length - t)) i j := by
        rw [show t + (S.length - t) = S.length by omega]
        exact a
      have := Alk.more h hsame (S.length + 1 - t) hi hj (Alk.le _ a)
      rw [show t + (S.length + 1 - t) = S.length + 1 by omega] at this
      exact this
    rw [st2.alk i j hi hj]
    constructor
    · intro a
      have := Alk.more h hsame (S.length - t) hi hj a.less
      rw [show t + (S.length - t) = S.length by omega] at this
      exact this
    · intro a
      have a : Alk ins S (t + (S.length - t)) i j := by
        rw [show t + (S.length - t) = S.length by omega]
        exact a
      exact hsame i j hi hj (Alk.le _ a)
  · have st2 := St.of h hA P
    have hlt2 : t + 1 ≤ L.length := by
      rcases hst with ⟨h0, _⟩ | ⟨ht, hlt, st⟩
      · omega
      · have := finer_le st2.up st.on fun i j hi hj e => (st.alk i j hi hj).mpr ((st2.alk i j hi hj).mp e).less
        omega
    have hfew := st2.few
    have e5 : asgH [4] 2 (callM lenM (consA (varE 3) nilA)) [some (.tup (S.map encR)), some (.lst (F.map nI)), some (.int ((many : Nat) : Int)), some (.cell g.cs.length), some (.lst (ps.map nI)), y5, y6, y7, x8, x9] g' = .ok (.nx [some (.tup (S.map encR)), some (.lst (F.map nI)), some (.int ((L.length : Nat) : Int)), some (.cell g.cs.length), some (.lst (ps.map nI)), y5, y6, y7, x8, x9]) g' := asgH_at (d := .int ((L.length : Nat) : Int)) hlen
    refine .inr ⟨[some (.tup (S.map encR)), some (.lst (ps.map nI)), some (.int ((L.length : Nat) : Int)), some (.cell g.cs.length), some (.lst (ps.map nI)), y5, y6, y7, x8, x9], g', μ - 1, ?_, by omega, P.b, t + 1, ps, L.length, _, _, _, _, _, _, _, rfl, by omega, P.len, st2.alk, .inr ⟨by omega, hlt2, st2⟩⟩
    rw [seqS_ok e1, seqS_of e2, seqS_ok e3', seqS_ok (by rw [e4, if_neg hm]), seqS_ok e5]
    exact asgH_at rfl
theorem classes_eq (hs : Sz ins outs) (h : GM ins outs S) (g : Bag) : ∃ c g', r_classes_of [.tup (S.map encR)] g = .ok (.lst ((c : List Nat).map nI)) g' ∧ g'.b = g.b ∧ c.length = S.length ∧ (∀ i j, i < S.length → j < S.length → (fAt c i = fAt c j ↔ Alk ins S S.length i j)) ∧ ∀ i j, i < S.length → j < S.length → Alk ins S S.length i j → Alk ins S (S.length + 1) i j := by
  obtain ⟨r, g', h1, c, rfl, h2, h3, h4⟩ := classes_loop hs h g rfl
  refine ⟨c, g', fnD_ok (env := [some (.tup (S.map encR)), none, none, none, none, none, none, none, none, none]) rfl ?_, h2, h3, h4⟩
  unfold s_classes_of
  have l4 := h.l4
  have e1 : asgH [] 1 (bin2 mul2D (lstE (consA (cE (.int 0)) nilA)) (callE lenL (consA (varE 0) nilA))) [some (.tup (S.map encR)), none, none, none, none, none, none, none, none, none] = M.ret (.nx [some (.tup (S.map encR)), some (.lst ((List.replicate S.length 0).map nI)), none, none, none, none, none, none, none, none]) := by
    refine (asgH_of (d := .lst ((List.replicate S.length 0).map nI)) ?_).trans rfl
    refine bin2_of (x := .lst [.int 0]) (y := .int ((S.length : Nat) : Int)) rfl (by simp) ?_
    rw [mul2_lst _ _ (by omega) (by simp; unfold line; omega), List.map_replicate]
    congr 2
    have : ∀ n : Nat, (List.replicate n [D.int 0]).flatten = List.replicate n (nI 0) := fun n => by
      induction n with
      | zero => rfl
      | succ n ih =>
        rw [List.replicate_succ, List.replicate_succ, List.flatten_cons, ih]
        rfl
    exact this _
  rw [seqS_of e1]
  have e2 : asgH [] 2 (cE (.int 0)) [some (.tup (S.map encR)), some (.lst ((List.replicate S.length 0).map nI)), none, none, none, none, none, none, none, none] = M.ret (.nx [some (.tup (S.map encR)), some (.lst ((List.replicate S.length 0).map nI)), some (.int 0), none, none, none, none, none, none, none]) := asgH_of rfl
  rw [seqS_of e2]
  exact h1
end
end K66

/-! K66p: _law_alike; the law's names. -/
namespace K66
open PySem PySem.Spec L2 RZ VC
open PyProof.Rows hiding St

def alkB (ins : Nat) (S : List MRow) : Nat → Nat → Nat → Bool
  | 0, _, _ => true
  | k + 1, i, j => (List.range (2 ^ ins)).all fun g => match at2 S i g, at2 S j g with
    | some a, some b => decide (a.1 = b.1) && alkB ins S k a.2 b.2
    | _, _ => false
section
variable {ins outs : Nat} {S : List MRow}
theorem alkB_iff : ∀ (k i j : Nat), alkB ins S k i j = true ↔ Alk ins S k i j
  | 0, _, _ => ⟨fun _ => trivial, fun _ => rfl⟩
  | k + 1, i, j => by
    unfold alkB Alk
    rw [List.all_eq_true]
    constructor
    · intro h g hg
      have := h g (List.mem_range.mpr hg)
      cases e1 : at2 S i g with
      | none => rw [e1] at this; cases this
      | some a =>
        cases e2 : at2 S j g with
        | none => rw [e1, e2] at this; cases this
        | some b =>
          rw [e1, e2] at this
          simp only [Bool.and_eq_true, decide_eq_true_eq] at this
          exact ⟨a, b, rfl, rfl, this.1, (alkB_iff k _ _).mp this.2⟩
    · intro h g hg
      obtain ⟨a, b, e1, e2, e3, e4⟩ := h g (List.mem_range.mp hg)
      rw [e1, e2]
      simp only [Bool.and_eq_true, decide_eq_true_eq]
      exact ⟨e3, (alkB_iff k _ _).mpr e4⟩
def okG (ins : Nat) (S : List MRow) (k i j g : Nat) : Bool := match at2 S i g, at2 S j g with
    | some a, some b => decide (a.1 = b.1) && alkB ins S k a.2 b.2
    | _, _ => false
theorem alike_turn (h : GM ins outs S) {ρr : FX} {k : Nat} (ih : ∀ i j, i < S.length → j < S.length → ρr [encM ins outs S, .int i, .int j, .int k] = M.ret (.bl (alkB ins S k i j))) {i j g : Nat} (hi : i < S.length) (hj : j < S.length) (hg : g < 2 ^ ins) (x5 x6 x7 x8 : Option D) : ∃ y5 y6 y7 y8,
    b_law_alike1 ρr [some (encM ins outs S), some (.int i), some (.int j), some (.int ((k : Int) + 1)), some (nI g), x5, x6, x7, x8] = M.ret (if okG ins S k i j g = true then .nx [some (encM ins outs S), some (.int i), some (.int j), some (.int ((k : Int) + 1)), some (nI g), y5, y6, y7, y8] else .rt (.bl false)) := by
  obtain ⟨ra, a, a1, a2, _, a3, _⟩ := row_at h hi hg
  obtain ⟨rb, b, b1, b2, _, b3, _⟩ := row_at h hj hg
  have hok : okG ins S k i j g = (decide (a.1 = b.1) && alkB ins S k a.2 b.2) := by
    unfold okG at2
    rw [a1, b1]
    show (match ra[g]?, rb[g]? with | some a, some b => _ | _, _ => false) = _
    rw [a2, b2]
  rw [hok]
  have pa : atI (S.map encR) (i : Int) = some (encR ra) := by rw [VC.atI_nat, List.getElem?_map, a1]; rfl
  have pb : atI (S.map encR) (j : Int) = some (encR rb) := by rw [VC.atI_nat, List.getElem?_map, b1]; rfl
  have qa : atI (ra.map encP) (g : Int) = some (.tup [.int a.1, .int a.2]) := by rw [VC.atI_nat, List.getElem?_map, a2]; rfl
  have qb : atI (rb.map encP) (g : Int) = some (.tup [.int b.1, .int b.2]) := by rw [VC.atI_nat, List.getElem?_map, b2]; rfl
  have ih2 := ih a.2 b.2 a3 b3
  refine ⟨some (.int a.1), some (.int a.2), some (.int b.1), some (.int b.2), ?_⟩
  unfold b_law_alike1
  have f1 : unpH [] (tupB 2 (consB (nameB 5) (consB (nameB 6) nilB))) (bin2 ixD (bin2 ixD (bin2 ixD (varE 0) (cE (.int 3))) (varE 1)) (varE 4)) [some (encM ins outs S), some (.int i), some (.int j), some (.int ((k : Int) + 1)), some (nI g), x5, x6, x7, x8] = M.ret (.nx [some (encM ins outs S), some (.int i), some (.int j), some (.int ((k : Int) + 1)), some (nI g), some (.int a.1), some (.int a.2), x7, x8]) := by
    simp [encM, pa, encR, nI, qa]
  rw [seqS_of f1]
  have f2 : unpH [] (tupB 2 (consB (nameB 7) (consB (nameB 8) nilB))) (bin2 ixD (bin2 ixD (bin2 ixD (varE 0) (cE (.int 3))) (varE 2)) (varE 4)) [some (encM ins outs S), some (.int i), some (.int j), some (.int ((k : Int) + 1)), some (nI g), some (.int a.1), some (.int a.2), x7, x8] = M.ret (.nx [some (encM ins outs S), some (.int i), some (.int j), some (.int ((k : Int) + 1)), some (nI g), some (.int a.1), some (.int a.2), some (.int b.1), some (.int b.2)]) := by
    simp [encM, pb, encR, nI, qb]
  rw [seqS_of f2]
  have hk1 : (k : Int) + 1 - 1 = k := by omega
  by_cases e : a.1 = b.1
  · have e' : (a.1 : Int) = b.1 := by rw [e]
    cases hb : alkB ins S k a.2 b.2 <;> rw [hb] at ih2 <;> simp [e, hk1, ih2]
  · have e' : ¬ (a.1 : Int) = b.1 := by omega
    simp [e, e']
theorem alike_loop (h : GM ins outs S) {ρr : FX} {k : Nat} (ih : ∀ i j, i < S.length → j < S.length → ρr [encM ins outs S, .int i, .int j, .int k] = M.ret (.bl (alkB ins S k i j))) {i j : Nat} (hi : i < S.length) (hj : j < S.length) : ∀ (gs : List Nat), (∀ g ∈ gs, g < 2 ^ ins) → ∀ (x4 x5 x6 x7 x8 : Option D), ∃ (y4 y5 y6 y7 y8 : Option D),
    forGo [] (nameB 4) (b_law_alike1 ρr) (gs.map nI) [some (encM ins outs S), some (.int i), some (.int j), some (.int ((k : Int) + 1)), x4, x5, x6, x7, x8] = M.ret (if (gs.all (okG ins S k i j)) = true then .nx [some (encM ins outs S), some (.int i), some (.int j), some (.int ((k : Int) + 1)), y4, y5, y6, y7, y8] else .rt (.bl false))
  | [], _, x4, x5, x6, x7, x8 => ⟨x4, x5, x6, x7, x8, rfl⟩
  | g :: gs, hg, x4, x5, x6, x7, x8 => by
    obtain ⟨y5, y6, y7, y8, ht⟩ := alike_turn h ih hi hj (hg g List.mem_cons_self) x5 x6 x7 x8
    rw [List.map_cons, forGo_cons (l := [(4, nI g)]) rfl rfl, List.all_cons]
    show ∃ z4 z5 z6 z7 z8, M.bnd (b_law_alike1 ρr [some (encM ins outs S), some (.int i), some (.int j), some (.int ((k : Int) + 1)), some (nI g), x5, x6, x7, x8]) _ = _
    rw [ht, bnd_ret]
    cases okG ins S k i j g with
    | true =>
      obtain ⟨z4, z5, z6, z7, z8, hz⟩ := alike_loop h ih hi hj gs (fun x hx => hg x (List.mem_cons_of_mem _ hx)) (some (nI g)) y5 y6 y7 y8
      exact ⟨z4, z5, z6, z7, z8, hz⟩
    | false => exact ⟨none, none, none, none, none, rfl⟩
theorem rngD_nI (n : Nat) : rngD 0 n = (List.range n).map nI := by
  unfold rngD
  refine List.map_congr_left fun i _ => ?_
  show D.int (0 + (i : Int)) = _
  rw [Int.zero_add]
  rfl
theorem r_alike_succ (n : Nat) : r__law_alike (n + 1) = fnD n__law_alike (s__law_alike (r__law_alike n)) := rfl
theorem alike_eq (hs : Sz ins outs) (h : GM ins outs S) : ∀ (k n : Nat), k < n → ∀ i j, i < S.length → j < S.length → r__law_alike n [encM ins outs S, .int i, .int j, .int k] = M.ret (.bl (alkB ins S k i j))
  | _, 0, hk, _, _, _, _ => absurd hk (Nat.not_lt_zero _)
  | 0, n + 1, _, i, j, hi, hj => by
    rw [r_alike_succ]
    simp [s__law_alike, startE, alkB]
  | k + 1, n + 1, hk, i, j, hi, hj => by
    have i2 := hs.i
    have ih := fun i j hi hj => alike_eq hs h k n (by omega) i j hi hj
    obtain ⟨y4, y5, y6, y7, y8, hl⟩ := alike_loop h (ρr := r__law_alike n) (k := k) ih hi hj (List.range (2 ^ ins)) (fun g hg => List.mem_range.mp hg) none none none none none
    have h1 := shl_one ins (by omega)
    have ha : alkB ins S (k + 1) i j = (List.range (2 ^ ins)).all (okG ins S k i j) := rfl
    rw [r_alike_succ]
    rw [← rngD_nI] at hl
    funext g
    refine fnD_ok (env := [some (encM ins outs S), some (.int i), some (.int j), some (.int ((k : Int) + 1)), none, none, none, none, none]) rfl ?_
    unfold s__law_alike
    have f1 : ifS (valT (bin2 eqVD (varE 3) (cE (.int 0)))) (retS (cE (.bl true))) nxS [some (encM ins outs S), some (.int i), some (.int j), some (.int ((k : Int) + 1)), none, none, none, none, none] = M.ret (.nx [some (encM ins outs S), some (.int i), some (.int j), some (.int ((k : Int) + 1)), none, none, none, none, none]) := by
      have : ¬ ((k : Int) + 1 = 0) := by omega
      simp [this]
    rw [seqS_of f1]
    have f2 : forH [] (rng1I (consA (bin2 shlD (cE (.int 1)) (bin2 ixD (varE 0) (cE (.int 1)))) nilA)) (nameB 4) (b_law_alike1 (r__law_alike n)) [some (encM ins outs S), some (.int i), some (.int j), some (.int ((k : Int) + 1)), none, none, none, none, none] = M.ret (if ((List.range (2 ^ ins)).all (okG ins S k i j)) = true then .nx [some (encM ins outs S), some (.int i), some (.int j), some (.int ((k : Int) + 1)), y4, y5, y6, y7, y8] else .rt (.bl false)) := by
      rw [forH_of (rng1_nat (k := 2 ^ ins) ?_ (by have := pw_le i2; omega))]
      · exact hl
      · refine bin2_of (x := .int 1) (y := .int ins) rfl rfl h1
    rw [ha]
    cases hb : (List.range (2 ^ ins)).all (okG ins S k i j) with
    | true =>
      rw [hb, if_pos rfl] at f2
      rw [seqS_of f2]
      rfl
    | false =>
      rw [hb, if_neg (by decide)] at f2
      rw [seqS_eq, f2, bnd_ret]
      rfl
/-! ### the law's names -/
/-- the first state that answers as i does -/
def nm (ins : Nat) (S : List MRow) (i : Nat) : Nat := (((List.range (i + 1)).filter fun j => alkB ins S S.length j i).head?).getD 0
theorem sorted_min : ∀ (n : Nat) (P : Nat → Bool), ((List.range n).filter P).Pairwise (· < ·) := fun n P => List.Pairwise.filter _ List.pairwise_lt_range
theorem nm_props (h : GM ins outs S) {i : Nat} (hi : i < S.length) : nm ins S i ≤ i ∧ Alk ins S S.length (nm ins S i) i ∧ (∀ j, j ≤ i → Alk ins S S.length j i → nm ins S i ≤ j) ∧ ∃ r, (List.range (i + 1)).filter (fun j => alkB ins S S.length j i) = nm ins S i :: r ∧ ∀ x ∈ r, nm ins S i < x := by
  have hm : i ∈ (List.range (i + 1)).filter fun j => alkB ins S S.length j i := List.mem_filter.mpr ⟨List.mem_range.mpr (by omega), (alkB_iff _ _ _).mpr (Alk.refl h _ hi)⟩
  have hp := sorted_min (i + 1) fun j => alkB ins S S.length j i
  unfold nm
  generalize hg : (List.range (i + 1)).filter (fun j => alkB ins S S.length j i) = l at hm hp
  cases l with
  | nil => cases hm
  | cons x r =>
    simp only [List.head?_cons, Option.getD_some]
    have hx : x ∈ (List.range (i + 1)).filter fun j => alkB ins S S.length j i := by rw [hg]; exact List.mem_cons_self
    obtain ⟨h1, h2⟩ := List.mem_filter.mp hx
    have h1 := List.mem_range.mp h1
    have hp2 := List.pairwise_cons.mp hp
    refine ⟨by omega, (alkB_iff _ _ _).mp h2, fun j hj a => ?_, r, rfl, hp2.1⟩
    have hj2 : j ∈ x :: r := by rw [← hg]; exact List.mem_filter.mpr ⟨List.mem_range.mpr (by omega), (alkB_iff _ _ _).mpr a⟩
    rcases List.mem_cons.mp hj2 with rfl | hj2
    · exact Nat.le_refl _
    · exact Nat.le_of_lt (hp2.1 j hj2)
theorem nm_iff (h : GM ins outs S) {i j : Nat} (hi : i < S.length) (hj : j < S.length) : nm ins S i = nm ins S j ↔ Alk ins S S.length i j := by
  obtain ⟨a1, a2, a3, _⟩ := nm_props h hi
  obtain ⟨b1, b2, b3, _⟩ := nm_props h hj
  constructor
  · intro e
    rw [e] at a2
    exact a2.symm.trans b2
  · intro a
    have x1 : Alk ins S S.length (nm ins S i) j := a2.trans a
    have x2 : Alk ins S S.length (nm ins S j) i := b2.trans a.symm
    by_cases hle : nm ins S i ≤ nm ins S j
    · have := b3 (nm ins S i) (by omega) x1
      omega
    · have := a3 (nm ins S j) (by omega) x2
      omega
theorem nm_idem (h : GM ins outs S) {i : Nat} (hi : i < S.length) : nm ins S (nm ins S i) = nm ins S i := by
  obtain ⟨a1, a2, _⟩ := nm_props h hi
  exact (nm_iff h (by omega) hi).mpr a2
end
end K66

/-! K66q: states numbered as they are met. -/
namespace K66
open PySem PySem.Spec L2 RZ VC
open PyProof.Rows hiding St

def stp (ι c : Nat → Nat) (p : List Nat × List (Nat × Nat)) (q : Nat × Nat) : List Nat × List (Nat × Nat) :=
  let F := if c q.2 ∈ p.1.map c then p.1 else p.1 ++ [ι q.2]
  (F, p.2 ++ [(q.1, (F.map c).idxOf (c q.2))])
def rowG (ι c : Nat → Nat) (F : List Nat) (r : MRow) : List Nat × List (Nat × Nat) := r.foldl (stp ι c) (F, [])
def numG (ι c : Nat → Nat) (S : List MRow) : Nat → List Nat → List MRow → List MRow
  | 0, _, rows => rows
  | n + 1, F, rows => if rows.length < F.length then numG ι c S n (rowG ι c F ((S[(F[rows.length]?).getD 0]?).getD [])).1 (rows ++ [(rowG ι c F ((S[(F[rows.length]?).getD 0]?).getD [])).2]) else rows
/-- what holds of the met ones -/
structure Met (c : Nat → Nat) (m : Nat) (F : List Nat) : Prop where
  nd : (F.map c).Nodup
  lt : ∀ f ∈ F, f < m
theorem Met.few {c : Nat → Nat} {m : Nat} {F : List Nat} (h : Met c m F) : F.length ≤ m := pigeon m F (nodup_of_map h.nd) h.lt
theorem stp_met {ι c : Nat → Nat} {m : Nat} (hι : ∀ t, t < m → ι t < m ∧ c (ι t) = c t) {p : List Nat × List (Nat × Nat)} {q : Nat × Nat} (hq : q.2 < m) (h : Met c m p.1) : Met c m (stp ι c p q).1 ∧ p.1.length ≤ (stp ι c p q).1.length := by
  unfold stp
  by_cases hin : c q.2 ∈ p.1.map c
  · simp only [if_pos hin]
    exact ⟨h, Nat.le_refl _⟩
  · simp only [if_neg hin]
    obtain ⟨h1, h2⟩ := hι q.2 hq
    refine ⟨⟨?_, fun f hf => ?_⟩, by simp⟩
    · rw [List.map_append]
      exact nodup_snoc h.nd (by rw [h2]; exact hin)
    · rcases List.mem_append.mp hf with hf | hf
      · exact h.lt f hf
      · rw [List.mem_singleton.mp hf]; exact h1
theorem fold_met {ι c : Nat → Nat} {m : Nat} (hι : ∀ t, t < m → ι t < m ∧ c (ι t) = c t) : ∀ (r : MRow) (p : List Nat × List (Nat × Nat)), (∀ q ∈ r, q.2 < m) → Met c m p.1 → Met c m (r.foldl (stp ι c) p).1 ∧ p.1.length ≤ (r.foldl (stp ι c) p).1.length
  | [], p, _, h => ⟨h, Nat.le_refl _⟩
  | q :: r, p, hr, h => by
    obtain ⟨h1, h2⟩ := stp_met hι (hr q List.mem_cons_self) h
    obtain ⟨h3, h4⟩ := fold_met hι r (stp ι c p q) (fun x hx => hr x (List.mem_cons_of_mem _ hx)) h1
    exact ⟨h3, Nat.le_trans h2 h4⟩
/-! ### the same for alike ones -/
section
variable {ins outs : Nat} {S : List MRow} {c e : Nat → Nat} {ι κ : Nat → Nat} {m : Nat}
/-- alike lists -/
def Lk (e : Nat → Nat) (F O : List Nat) : Prop := F.map e = O.map e
theorem mem_conv (hc : ∀ i j, i < m → j < m → (c i = c j ↔ e i = e j)) {F : List Nat} (hF : ∀ f ∈ F, f < m) {t : Nat} (ht : t < m) : c t ∈ F.map c ↔ e t ∈ F.map e := by
  rw [List.mem_map, List.mem_map]
  constructor
  · rintro ⟨f, hf, h⟩; exact ⟨f, hf, (hc f t (hF f hf) ht).mp h⟩
  · rintro ⟨f, hf, h⟩; exact ⟨f, hf, (hc f t (hF f hf) ht).mpr h⟩
theorem idx_conv (hc : ∀ i j, i < m → j < m → (c i = c j ↔ e i = e j)) {t : Nat} (ht : t < m) : ∀ {F : List Nat}, (∀ f ∈ F, f < m) → (F.map c).idxOf (c t) = (F.map e).idxOf (e t)
  | [], _ => rfl
  | f :: F, hF => by
    have ih := idx_conv hc ht (F := F) fun x hx => hF x (List.mem_cons_of_mem _ hx)
    rw [List.map_cons, List.map_cons, List.idxOf_cons, List.idxOf_cons, ih]
    have h := hc f t (hF f List.mem_cons_self) ht
    by_cases h1 : c f = c t
    · have h2 := h.mp h1
      rw [h1, h2, BEq.rfl, BEq.rfl]
    · have h2 := fun z => h1 (h.mpr z)
      rw [beq_eq_false_iff_ne.mpr h1, beq_eq_false_iff_ne.mpr h2]
theorem stp_conv (hc : ∀ i j, i < m → j < m → (c i = c j ↔ e i = e j)) (hι : ∀ t, t < m → ι t < m ∧ e (ι t) = e t) (hκ : ∀ t, t < m → κ t < m ∧ e (κ t) = e t) {F O : List Nat} {row : List (Nat × Nat)} (hF : ∀ f ∈ F, f < m) (hO : ∀ f ∈ O, f < m) (hl : Lk e F O) {q q' : Nat × Nat} (hq : q.2 < m) (hq' : q'.2 < m) (h1 : q.1 = q'.1) (h2 : e q.2 = e q'.2) :
    (stp ι c (F, row) q).2 = (stp κ e (O, row) q').2 ∧ Lk e (stp ι c (F, row) q).1 (stp κ e (O, row) q').1 ∧ (∀ f ∈ (stp ι c (F, row) q).1, f < m) ∧ (∀ f ∈ (stp κ e (O, row) q').1, f < m) := by
  have hm : c q.2 ∈ F.map c ↔ e q'.2 ∈ O.map e := by rw [mem_conv hc hF hq, hl, h2]
  obtain ⟨i1, i2⟩ := hι q.2 hq
  obtain ⟨k1, k2⟩ := hκ q'.2 hq'
  unfold stp
  by_cases hin : c q.2 ∈ F.map c
  · have hin' := hm.mp hin
    simp only [if_pos hin, if_pos hin']
    refine ⟨?_, hl, hF, hO⟩
    rw [idx_conv hc hq hF, hl, h1, h2]
  · have hin' := fun z => hin (hm.mpr z)
    simp only [if_neg hin, if_neg hin']
    have hF' : ∀ f ∈ F ++ [ι q.2], f < m := fun f hf => by
      rcases List.mem_append.mp hf with hf | hf
      · exact hF f hf
      · rw [List.mem_singleton.mp hf]; exact i1
    have hO' : ∀ f ∈ O ++ [κ q'.2], f < m := fun f hf => by
      rcases List.mem_append.mp hf with hf | hf
      · exact hO f hf
      · rw [List.mem_singleton.mp hf]; exact k1
    have hl' : Lk e (F ++ [ι q.2]) (O ++ [κ q'.2]) := by
      unfold Lk
      rw [List.map_append, List.map_append, hl, List.map_singleton, List.map_singleton, i2, k2, h2]
    refine ⟨?_, hl', hF', hO'⟩
    rw [idx_conv hc hq hF', hl', h1, h2]
theorem fold_conv (hc : ∀ i j, i < m → j < m → (c i = c j ↔ e i = e j)) (hι : ∀ t, t < m → ι t < m ∧ e (ι t) = e t) (hκ : ∀ t, t < m → κ t < m ∧ e (κ t) = e t) : ∀ (r r' : MRow) (F O : List Nat) (row : List (Nat × Nat)), (∀ f ∈ F, f < m) → (∀ f ∈ O, f < m) → Lk e F O → r.length = r'.length →
    (∀ (g : Nat) (q q' : Nat × Nat), r[g]? = some q → r'[g]? = some q' → q.2 < m ∧ q'.2 < m ∧ q.1 = q'.1 ∧ e q.2 = e q'.2) →
    (r.foldl (stp ι c) (F, row)).2 = (r'.foldl (stp κ e) (O, row)).2 ∧ Lk e (r.foldl (stp ι c) (F, row)).1 (r'.foldl (stp κ e) (O, row)).1 ∧ (∀ f ∈ (r.foldl (stp ι c) (F, row)).1, f < m) ∧ (∀ f ∈ (r'.foldl (stp κ e) (O, row)).1, f < m)
  | [], [], F, O, row, hF, hO, hl, _, _ => ⟨rfl, hl, hF, hO⟩
  | [], _ :: _, _, _, _, _, _, _, h, _ => by simp at h
  | _ :: _, [], _, _, _, _, _, _, h, _ => by simp at h
  | q :: r, q' :: r', F, O, row, hF, hO, hl, h, hr => by
    obtain ⟨a1, a2, a3, a4⟩ := hr 0 q q' rfl rfl
    obtain ⟨b1, b2, b3, b4⟩ := stp_conv hc hι hκ (row := row) hF hO hl a1 a2 a3 a4
    have := fold_conv hc hι hκ r r' (stp ι c (F, row) q).1 (stp κ e (O, row) q').1 (stp ι c (F, row) q).2 b3 b4 b2 (by simpa using h) fun g x x' e1 e2 => hr (g + 1) x x' (by simpa using e1) (by simpa using e2)
    have e2 : stp κ e (O, row) q' = ((stp κ e (O, row) q').1, (stp ι c (F, row) q).2) := by rw [b1]
    rw [List.foldl_cons, List.foldl_cons, e2]
    exact this
theorem numG_conv (hc : ∀ i j, i < m → j < m → (c i = c j ↔ e i = e j)) (hι : ∀ t, t < m → ι t < m ∧ e (ι t) = e t) (hκ : ∀ t, t < m → κ t < m ∧ e (κ t) = e t)
    (hS : ∀ i j, i < m → j < m → e i = e j → ((S[i]?).getD []).length = ((S[j]?).getD []).length ∧ ∀ (g : Nat) (q q' : Nat × Nat), ((S[i]?).getD [])[g]? = some q → ((S[j]?).getD [])[g]? = some q' → q.2 < m ∧ q'.2 < m ∧ q.1 = q'.1 ∧ e q.2 = e q'.2) :
    ∀ (n : Nat) (F O : List Nat) (rows : List MRow), (∀ f ∈ F, f < m) → (∀ f ∈ O, f < m) → Lk e F O → numG ι c S n F rows = numG κ e S n O rows
  | 0, _, _, _, _, _, _ => rfl
  | n + 1, F, O, rows, hF, hO, hl => by
    have hlen : F.length = O.length := by
      have := congrArg List.length hl
      simpa using this
    unfold numG
    rw [hlen]
    by_cases h : rows.length < O.length
    · rw [if_pos h, if_pos h]
      have e1 := List.getElem?_eq_getElem (show rows.length < F.length by omega)
      have e2 := List.getElem?_eq_getElem h
      have f1 := hF _ (List.getElem_mem (show rows.length < F.length by omega))
      have f2 := hO _ (List.getElem_mem h)
      have ee : e (F[rows.length]'(by omega)) = e O[rows.length] := by
        have := congrArg (fun l => l[rows.length]?) hl
        simp only [List.getElem?_map, e1, e2, Option.map_some] at this
        exact Option.some.inj this
      rw [e1, e2, Option.getD_some, Option.getD_some]
      obtain ⟨s1, s2⟩ := hS _ _ f1 f2 ee
      obtain ⟨b1, b2, b3, b4⟩ := fold_conv hc hι hκ _ _ F O [] hF hO hl s1 s2
      have ih := numG_conv hc hι hκ hS n _ _ (rows ++ [(rowG ι c F ((S[F[rows.length]'(by omega)]?).getD [])).2]) b3 b4 b2
      unfold rowG at ih ⊢
      rw [ih, b1]
    · rw [if_neg h, if_neg h]
end
end K66

/-! K66r: numbered; reduced. -/
namespace K66
open PySem PySem.Spec L2 RZ VC
open PyProof.Rows hiding St

def kf (n : Nat) : Key := .inl (n : Int)
theorem kf_inj (x y : Nat) (h : kf x = kf y) : x = y := by
  have := Sum.inl.inj h
  omega
theorem notIn_dKg {ks : List Key} {xs : List D} {d : D} {k : Key} (hk : keyD d = some k) : notInVD d (.dK ks xs) = some (.bl (!(valX ks xs k).isSome)) := by
  show Option.map _ ((keyD d).map _) = _
  rw [hk]
  rfl
theorem get_dKg {ks : List Key} {xs : List D} {d : D} {k : Key} (hk : keyD d = some k) : getD (.dK ks xs) d = valX ks xs k := by
  show (keyD d).bind _ = _
  rw [hk]
  rfl
theorem put_dKg {ks : List Key} {xs : List D} {d x : D} {k : Key} (hk : keyD d = some k) : putO (.dK ks xs) d x = if ks.length < line then some (.dK (putX ks xs k x).1 (putX ks xs k x).2) else none := by
  show (keyD d).bind _ = _
  rw [hk]
  rfl
def numD (c : Nat → Nat) (F : List Nat) : D := .dK ((F.map c).map kf) ((List.range F.length).map nI)
section
variable {c : Nat → Nat} {m : Nat} {F : List Nat}
theorem posF (k : Nat) : (k ∈ F.map c → ∃ p, (F.map c)[p]? = some k ∧ valX ((F.map c).map kf) ((List.range F.length).map nI) (kf k) = some (nI p)) ∧ (k ∉ F.map c → valX ((F.map c).map kf) ((List.range F.length).map nI) (kf k) = none) := by
  have hp := posK kf_inj k (F.map c) nI 0
  simp only [Nat.zero_add, List.length_map] at hp
  exact hp
theorem getNum (h : (F.map c).Nodup) {k : Nat} (hk : k ∈ F.map c) : getD (numD c F) (.int k) = some (nI ((F.map c).idxOf k)) := by
  obtain ⟨p, h1, h2⟩ := (posF k).1 hk
  rw [numD, get_dKg (k := kf k) rfl, h2, idxOf_at h h1]
theorem notNum {k : Nat} : notInVD (.int k) (numD c F) = some (.bl (!decide (k ∈ F.map c))) := by
  rw [numD, notIn_dKg (k := kf k) rfl]
  by_cases hk : k ∈ F.map c
  · obtain ⟨p, h1, h2⟩ := (posF k).1 hk
    rw [h2, decide_eq_true hk]
    rfl
  · rw [(posF k).2 hk, decide_eq_false hk]
    rfl
theorem putNum {t : Nat} (hk : c t ∉ F.map c) (hl : F.length < line) : putO (numD c F) (.int (c t)) (nI F.length) = some (numD c (F ++ [t])) := by
  unfold numD
  rw [put_dKg (k := kf (c t)) rfl, if_pos (by simpa using hl)]
  have hx : hasX ((F.map c).map kf) (kf (c t)) = false := by
    rw [Bool.eq_false_iff]
    intro z
    obtain ⟨y, hy, e⟩ := List.mem_map.mp ((hasX_iff _ _).mp z)
    exact hk (kf_inj _ _ e ▸ hy)
  unfold putX
  rw [if_neg (by rw [hx]; decide)]
  rw [List.map_append, List.map_append, List.length_append, List.length_singleton, range_snoc nI]
  rfl
end
def eN (S : List MRow) (cs F : List Nat) (rows : D) (row : List (Nat × Nat)) (x6 x7 : Option D) : Slots :=
  [some (.tup (S.map encR)), some (.lst (cs.map nI)), some (numD (fAt cs) F), some (.lst (F.map nI)), some rows, some (.lst (row.map encP)), x6, x7]
theorem num_turn {S : List MRow} {cs : List Nat} {m : Nat} (hc : cs.length = m) (hm : m ≤ 4) {F : List Nat} (hF : Met (fAt cs) m F) {row : List (Nat × Nat)} (hr : row.length < 100) {q : Nat × Nat} (hq : q.2 < m) (rows : D) :
    b_numbered1 (eN S cs F rows row (some (.int q.1)) (some (.int q.2))) = M.ret (.nx (eN S cs (stp id (fAt cs) (F, row) q).1 rows (stp id (fAt cs) (F, row) q).2 (some (.int q.1)) (some (.int q.2)))) := by
  have hfew := hF.few
  have hcx := fAt_ix (F := cs) (i := q.2) (by omega)
  have hni := notNum (c := fAt cs) (F := F) (k := fAt cs q.2)
  have htt : ifS (valT (bin2 notInVD (bin2 ixD (varE 1) (varE 7)) (varE 2))) (seqS (dputF 2 (bin2 ixD (varE 1) (varE 7)) (callE lenDL (consA (varE 2) nilA))) (appH [2, 3, 4, 5] 3 (varE 7))) nxS (eN S cs F rows row (some (.int q.1)) (some (.int q.2))) = M.ret (.nx (eN S cs (stp id (fAt cs) (F, row) q).1 rows row (some (.int q.1)) (some (.int q.2)))) := by
    have ht : valT (bin2 notInVD (bin2 ixD (varE 1) (varE 7)) (varE 2)) (eN S cs F rows row (some (.int q.1)) (some (.int q.2))) = M.ret (!decide (fAt cs q.2 ∈ F.map (fAt cs))) := valT_of (bin2_of (bin2_of (x := .lst (cs.map nI)) (y := .int q.2) rfl rfl hcx) rfl hni)
    rw [ifS_of ht]
    unfold stp
    by_cases hin : fAt cs q.2 ∈ F.map (fAt cs)
    · simp only [if_pos hin]
      rw [decide_eq_true hin, if_neg (by decide)]
      rfl
    · simp only [if_neg hin]
      rw [decide_eq_false hin, if_pos (by decide)]
      have h1 : dputF 2 (bin2 ixD (varE 1) (varE 7)) (callE lenDL (consA (varE 2) nilA)) (eN S cs F rows row (some (.int q.1)) (some (.int q.2))) = M.ret (.nx ((eN S cs F rows row (some (.int q.1)) (some (.int q.2))).set 2 (some (numD (fAt cs) (F ++ [q.2]))))) := by
        refine dputF_of (x := nI F.length) (d := numD (fAt cs) F) (k := .int (fAt cs q.2)) (call1_of (x := numD (fAt cs) F) rfl ?_) rfl (bin2_of (x := .lst (cs.map nI)) (y := .int q.2) rfl rfl hcx) (putNum hin (by unfold line; omega)) rfl
        show some (D.int (((F.map (fAt cs)).map kf).length : Int)) = _
        rw [List.length_map, List.length_map]
        rfl
      rw [seqS_of h1]
      refine (appH_of (xs := F.map nI) (d := nI q.2) rfl rfl (by rw [List.length_map]; unfold line; omega)).trans ?_
      unfold eN
      rw [List.map_append]
      rfl
  unfold b_numbered1
  rw [seqS_of htt]
  obtain ⟨hm1, _⟩ := stp_met (ι := id) (c := fAt cs) (m := m) (fun t ht => ⟨ht, rfl⟩) hq (p := (F, row)) hF
  have hmem : fAt cs q.2 ∈ ((stp id (fAt cs) (F, row) q).1).map (fAt cs) := by
    unfold stp
    by_cases hin : fAt cs q.2 ∈ F.map (fAt cs)
    · simp only [if_pos hin]; exact hin
    · simp only [if_neg hin]
      rw [List.map_append]
      exact List.mem_append_right _ (List.mem_singleton.mpr rfl)
  have hget := getNum hm1.nd hmem
  have hrow : (stp id (fAt cs) (F, row) q).2 = row ++ [(q.1, (((stp id (fAt cs) (F, row) q).1).map (fAt cs)).idxOf (fAt cs q.2))] := rfl
  rw [hrow]
  generalize (stp id (fAt cs) (F, row) q).1 = F' at hget hmem
  have hv : tupE (consA (varE 6) (consA (bin2 getD (varE 2) (bin2 ixD (varE 1) (varE 7))) nilA)) (eN S cs F' rows row (some (.int q.1)) (some (.int q.2))) = M.ret (encP (q.1, (F'.map (fAt cs)).idxOf (fAt cs q.2))) := tup2_of rfl (bin2_of (x := numD (fAt cs) F') (y := .int (fAt cs q.2)) rfl (bin2_of (x := .lst (cs.map nI)) (y := .int q.2) rfl rfl hcx) hget)
  rw [appF_eq]
  have hat : lstAt (eN S cs F' rows row (some (.int q.1)) (some (.int q.2))) 5 = some (row.map encP) := rfl
  rw [hat, ofO_someM, bnd_ret, hv, bnd_ret, if_pos ⟨rfl, by rw [List.length_map]; unfold line; omega⟩]
  unfold eN
  rw [List.map_append]
  rfl
theorem num_row {S : List MRow} {cs : List Nat} {m : Nat} (hc : cs.length = m) (hm : m ≤ 4) (rows : D) : ∀ (r : MRow) (F : List Nat) (row : List (Nat × Nat)), Met (fAt cs) m F → row.length + r.length < 100 → (∀ q ∈ r, q.2 < m) → ∀ x6 x7, ∃ y6 y7,
    forGo [2, 3, 4, 5] (tupB 2 (consB (nameB 6) (consB (nameB 7) nilB))) b_numbered1 (r.map encP) (eN S cs F rows row x6 x7) = M.ret (.nx (eN S cs (r.foldl (stp id (fAt cs)) (F, row)).1 rows (r.foldl (stp id (fAt cs)) (F, row)).2 y6 y7))
  | [], F, row, _, _, _, x6, x7 => ⟨x6, x7, rfl⟩
  | q :: r, F, row, hF, hl, hq, x6, x7 => by
    rw [List.length_cons] at hl
    have hq1 := hq q List.mem_cons_self
    have ht := num_turn (S := S) hc hm hF (row := row) (by omega) hq1 rows
    obtain ⟨hm1, _⟩ := stp_met (ι := id) (c := fAt cs) (m := m) (fun t ht => ⟨ht, rfl⟩) hq1 (p := (F, row)) hF
    have hrl : (stp id (fAt cs) (F, row) q).2.length = row.length + 1 := by unfold stp; simp
    obtain ⟨y6, y7, ih⟩ := num_row (S := S) hc hm rows r (stp id (fAt cs) (F, row) q).1 (stp id (fAt cs) (F, row) q).2 hm1 (by omega) (fun x hx => hq x (List.mem_cons_of_mem _ hx)) (some (.int q.1)) (some (.int q.2))
    refine ⟨y6, y7, ?_⟩
    rw [List.map_cons, forGo_cons (l := [(6, .int q.1), (7, .int q.2)]) rfl rfl, List.foldl_cons]
    show M.bnd (b_numbered1 (eN S cs F rows row (some (.int q.1)) (some (.int q.2)))) _ = _
    rw [ht, bnd_ret]
    exact ih
theorem flats_encP : ∀ r : List (Nat × Nat), flats (r.map encP) = true
  | [] => rfl
  | q :: r => by
    rw [List.map_cons]
    show (flat (encP q) && flats (r.map encP)) = true
    rw [flats_encP r]
    rfl
def eW (S : List MRow) (cs F : List Nat) (rows : List MRow) (x5 x6 x7 : Option D) : Slots :=
  [some (.tup (S.map encR)), some (.lst (cs.map nI)), some (numD (fAt cs) F), some (.lst (F.map nI)), some (.lst (rows.map encR)), x5, x6, x7]
section
variable {ins outs : Nat} {S : List MRow}
theorem num_body (hs : Sz ins outs) (h : GM ins outs S) {cs : List Nat} (hc : cs.length = S.length) {F : List Nat} (hF : Met (fAt cs) S.length F) {rows : List MRow} (hr : rows.length < F.length) (x5 x6 x7 : Option D) : ∃ y5 y6 y7,
    b_numbered2 (eW S cs F rows x5 x6 x7) = M.ret (.nx (eW S cs (rowG id (fAt cs) F ((S[(F[rows.length]?).getD 0]?).getD [])).1 (rows ++ [(rowG id (fAt cs) F ((S[(F[rows.length]?).getD 0]?).getD [])).2]) y5 y6 y7)) := by
  have l4 := h.l4
  have hi := pw_le hs.i
  have hfew := hF.few
  have e1 := List.getElem?_eq_getElem hr
  have hf := hF.lt _ (List.getElem_mem hr)
  have e2 := List.getElem?_eq_getElem hf
  have hmem := List.getElem_mem hf
  have hw := h.w _ hmem
  have he := h.e _ hmem
  rw [e1, Option.getD_some, e2, Option.getD_some]
  have pF : atI (F.map nI) (rows.length : Int) = some (.int (F[rows.length] : Int)) := by rw [VC.atI_nat, List.getElem?_map, e1]; rfl
  have pS : atI (S.map encR) (F[rows.length] : Int) = some (encR (S[F[rows.length]]'hf)) := by rw [VC.atI_nat, List.getElem?_map, e2]; rfl
  generalize S[F[rows.length]]'hf = r at hw he pS
  obtain ⟨y6, y7, hl⟩ := num_row (S := S) hc l4 (.lst (rows.map encR)) r F [] hF (by simp; omega) (fun q hq => (he q hq).2) x6 x7
  unfold b_numbered2
  have f1 : asgNH [2, 3, 4] 5 (lstE nilA) (eW S cs F rows x5 x6 x7) = M.ret (.nx (eN S cs F (.lst (rows.map encR)) [] x6 x7)) := asgNH_of rfl
  rw [seqS_of f1]
  have f2 : forT [2, 3, 4, 5] (bin2 ixD (varE 0) (bin2 ixD (varE 3) (callE lenL (consA (varE 4) nilA)))) (tupB 2 (consB (nameB 6) (consB (nameB 7) nilB))) b_numbered1 (eN S cs F (.lst (rows.map encR)) [] x6 x7) = M.ret (.nx (eN S cs (rowG id (fAt cs) F r).1 (.lst (rows.map encR)) (rowG id (fAt cs) F r).2 y6 y7)) := by
    have hit : bin2 ixD (varE 0) (bin2 ixD (varE 3) (callE lenL (consA (varE 4) nilA))) (eN S cs F (.lst (rows.map encR)) [] x6 x7) = M.ret (encR r) := bin2_of (x := .tup (S.map encR)) (y := .int F[rows.length]) rfl (bin2_of (x := .lst (F.map nI)) (y := .int (rows.length : Int)) rfl (call1_of (x := .lst (rows.map encR)) rfl (by simp)) pF) pS
    unfold forT
    rw [hit, bnd_ret]
    have : tupO (encR r) = some (r.map encP) := by
      show (if flats (r.map encP) = true then _ else none) = _
      rw [if_pos (flats_encP r)]
    rw [this, ofO_someM, bnd_ret]
    exact hl
  rw [seqS_of f2]
  refine ⟨some (.lst ((rowG id (fAt cs) F r).2.map encP)), y6, y7, ?_⟩
  rw [appF_eq]
  have hat : lstAt (eN S cs (rowG id (fAt cs) F r).1 (.lst (rows.map encR)) (rowG id (fAt cs) F r).2 y6 y7) 4 = some (rows.map encR) := rfl
  have hv : callE tupL (consA (varE 5) nilA) (eN S cs (rowG id (fAt cs) F r).1 (.lst (rows.map encR)) (rowG id (fAt cs) F r).2 y6 y7) = M.ret (encR (rowG id (fAt cs) F r).2) := call1_of rfl rfl
  rw [hat, ofO_someM, bnd_ret, hv, bnd_ret, if_pos ⟨flats_encP _, by rw [List.length_map]; unfold line; omega⟩]
  unfold eW eN
  rw [List.map_append]
  rfl
theorem num_loop (hs : Sz ins outs) (h : GM ins outs S) {cs : List Nat} (hc : cs.length = S.length) (g : Bag) : ∃ env' g', whileS (valT (bin2 ltD (callE lenL (consA (varE 4) nilA)) (callE lenL (consA (varE 3) nilA)))) b_numbered2 (eW S cs [0] [] none none none) g = .ok (.nx env') g' ∧ g' = g ∧ ∃ F x5 x6 x7, env' = eW S cs F (numG id (fAt cs) S 5 [0] []) x5 x6 x7 := by
  have l1 := h.l1
  have l4 := h.l4
  refine while_run (fun n env g' => g' = g ∧ ∃ F rows x5 x6 x7, env = eW S cs F rows x5 x6 x7 ∧ Met (fAt cs) S.length F ∧ rows.length + n = 5 ∧ numG id (fAt cs) S n F rows = numG id (fAt cs) S 5 [0] []) (fun env' g' => g' = g ∧ ∃ F x5 x6 x7, env' = eW S cs F (numG id (fAt cs) S 5 [0] []) x5 x6 x7) ?_ 5 _ _
    ⟨rfl, [0], [], none, none, none, rfl, ⟨by simp, fun f hf => by rw [List.mem_singleton.mp hf]; exact l1⟩, rfl, rfl⟩
  rintro n env g' ⟨rfl, F, rows, x5, x6, x7, rfl, hF, hn, hN⟩
  have hfew := hF.few
  have ht : valT (bin2 ltD (callE lenL (consA (varE 4) nilA)) (callE lenL (consA (varE 3) nilA))) (eW S cs F rows x5 x6 x7) = M.ret (decide (rows.length < F.length)) := by
    refine valT_of (bin2_of (x := .int (rows.length : Int)) (y := .int (F.length : Int)) (call1_of (x := .lst (rows.map encR)) rfl (by simp)) (call1_of (x := .lst (F.map nI)) rfl (by simp)) ?_)
    rw [ltD_ii]
    congr 2
    rw [decide_eq_decide]
    omega
  refine ⟨decide (rows.length < F.length), g', by rw [ht]; rfl, fun hb => ?_, fun hb => ?_⟩
  · have hr := of_decide_eq_true hb
    obtain ⟨y5, y6, y7, hbd⟩ := num_body hs h hc hF hr x5 x6 x7
    have e1 := List.getElem?_eq_getElem hr
    have hf := hF.lt _ (List.getElem_mem hr)
    have e2 := List.getElem?_eq_getElem hf
    have hrow : ((S[(F[rows.length]?).getD 0]?).getD []) ∈ S := by rw [e1, Option.getD_some, e2, Option.getD_some]; exact List.getElem_mem hf
    obtain ⟨hm1, hm2⟩ := fold_met (ι := id) (c := fAt cs) (m := S.length) (fun t ht => ⟨ht, rfl⟩) ((S[(F[rows.length]?).getD 0]?).getD []) (F, []) (fun q hq => (h.e _ hrow q hq).2) hF
    obtain ⟨k, rfl⟩ : ∃ k, n = k + 1 := ⟨n - 1, by omega⟩
    refine ⟨_, g', k, .inl (by rw [hbd]; rfl), by omega, rfl, _, _, y5, y6, y7, rfl, hm1, by rw [List.length_append, List.length_singleton]; omega, ?_⟩
    rw [← hN]
    show _ = numG id (fAt cs) S (k + 1) F rows
    rw [show numG id (fAt cs) S (k + 1) F rows = if rows.length < F.length then numG id (fAt cs) S k (rowG id (fAt cs) F ((S[(F[rows.length]?).getD 0]?).getD [])).1 (rows ++ [(rowG id (fAt cs) F ((S[(F[rows.length]?).getD 0]?).getD [])).2]) else rows from rfl, if_pos hr]
    rfl
  · have hr := of_decide_eq_false hb
    refine ⟨rfl, F, x5, x6, x7, ?_⟩
    rw [← hN]
    cases n with
    | zero => rfl
    | succ k =>
      rw [show numG id (fAt cs) S (k + 1) F rows = if rows.length < F.length then numG id (fAt cs) S k (rowG id (fAt cs) F ((S[(F[rows.length]?).getD 0]?).getD [])).1 (rows ++ [(rowG id (fAt cs) F ((S[(F[rows.length]?).getD 0]?).getD [])).2]) else rows from rfl, if_neg hr]
theorem numbered_eq (hs : Sz ins outs) (h : GM ins outs S) {cs : List Nat} (hc : cs.length = S.length) (g : Bag) : r_numbered [.tup (S.map encR), .lst (cs.map nI)] g = .ok (.tup ((numG id (fAt cs) S 5 [0] []).map encR)) g := by
  have l1 := h.l1
  obtain ⟨env', g', h1, rfl, F, x5, x6, x7, rfl⟩ := num_loop hs h hc g
  refine fnD_ok (env := [some (.tup (S.map encR)), some (.lst (cs.map nI)), none, none, none, none, none, none]) rfl ?_
  unfold s_numbered
  have hc0 := fAt_ix (F := cs) (i := 0) (by omega)
  have f1 : asgNH [] 2 (disp1K (bin2 ixD (varE 1) (cE (.int 0))) (cE (.int 0))) [some (.tup (S.map encR)), some (.lst (cs.map nI)), none, none, none, none, none, none] = M.ret (.nx [some (.tup (S.map encR)), some (.lst (cs.map nI)), some (numD (fAt cs) [0]), none, none, none, none, none]) := by
    refine (asgNH_of (d := numD (fAt cs) [0]) ?_).trans rfl
    unfold disp1K
    rw [bin2_of (x := .lst (cs.map nI)) (y := .int 0) rfl rfl hc0, bnd_ret]
    rfl
  rw [seqS_of f1]
  have f2 : asgNH [2] 3 (lstE (consA (cE (.int 0)) nilA)) [some (.tup (S.map encR)), some (.lst (cs.map nI)), some (numD (fAt cs) [0]), none, none, none, none, none] = M.ret (.nx [some (.tup (S.map encR)), some (.lst (cs.map nI)), some (numD (fAt cs) [0]), some (.lst ([0].map nI)), none, none, none, none]) := asgNH_of rfl
  rw [seqS_of f2]
  have f3 : asgNH [2, 3] 4 (lstE nilA) [some (.tup (S.map encR)), some (.lst (cs.map nI)), some (numD (fAt cs) [0]), some (.lst ([0].map nI)), none, none, none, none] = M.ret (.nx (eW S cs [0] [] none none none)) := asgNH_of rfl
  rw [seqS_of f3, seqS_ok h1]
  rfl
end
end K66

/-! K66s: the law's own reduced machine. -/
namespace K66
open PySem PySem.Spec L2 RZ VC
open PyProof.Rows hiding St

section
variable {ins outs : Nat} {S : List MRow}
theorem foldl_min_head : ∀ (r : List Int) (x : Int), (∀ y ∈ r, x ≤ y) → r.foldl min x = x
  | [], _, _ => rfl
  | y :: r, x, h => by
    have h1 := h y List.mem_cons_self
    rw [List.foldl_cons, Int.min_eq_left h1]
    exact foldl_min_head r x fun z hz => h z (List.mem_cons_of_mem _ hz)
theorem name_of (hs : Sz ins outs) (h : GM ins outs S) {k : Nat} (hk : k < S.length) (x1 x2 x3 x5 x7 x8 x9 x10 x11 x12 : Option D) : callE minL (consA e_law_reduced1 nilA) [some (encM ins outs S), x1, x2, x3, some (.tup (S.map encR)), x5, some (nI k), x7, x8, x9, x10, x11, x12] = M.ret (nI (nm ins S k)) := by
  have l4 := h.l4
  obtain ⟨_, _, _, r, hf, hr⟩ := nm_props h hk
  have he : e_law_reduced1 [some (encM ins outs S), x1, x2, x3, some (.tup (S.map encR)), x5, some (nI k), x7, x8, x9, x10, x11, x12] = M.ret (.lst ((nm ins S k :: r).map nI)) := by
    unfold e_law_reduced1
    rw [← hf]
    refine lc_run nI (fun j => alkB ins S S.length j k) nI (List.range (k + 1)) ?_ (by rw [List.length_range]; unfold line; omega) fun j hj => ⟨[(12, nI j)], rfl, ?_, fun _ => rfl⟩
    · rw [rng1_nat (k := k + 1) ?_ (by omega), rngD_nI]
      exact bin2_of (x := nI k) (y := .int 1) rfl rfl rfl
    · have hj := List.mem_range.mp hj
      refine valT_of (fnE_of (ds := [encM ins outs S, .int j, .int k, .int (S.length : Int)]) ?_ rfl (alike_eq hs h S.length 5 (by omega) j k (by omega) hk))
      simp [nI]
  have e2 : minL [.lst ((nm ins S k :: r).map nI)] = some (nI (nm ins S k)) := by
    have := minL_ints (nm ins S k : Int) (r.map fun n : Nat => (n : Int))
    rw [foldl_min_head _ _ fun y hy => by
      obtain ⟨z, hz, rfl⟩ := List.mem_map.mp hy
      have := hr z hz
      omega, List.map_map] at this
    exact this
  exact call1_of he e2
def eM (ins outs : Nat) (S : List MRow) (ns : List Nat) (x6 x7 x8 x9 x10 x11 : Option D) : Slots :=
  [some (encM ins outs S), some (.str "machine"), some (.int ins), some (.int outs), some (.tup (S.map encR)), some (.lst (ns.map nI)), x6, x7, x8, x9, x10, x11, none]
def lastN : Nat → Option D
  | 0 => none
  | i + 1 => some (nI i)
theorem names_loop (hs : Sz ins outs) (h : GM ins outs S) : ∃ y6, forH [5] (rng1I (consA (callE lenL (consA (varE 4) nilA)) nilA)) (nameB 6) b_law_reduced2 (eM ins outs S [] none none none none none none) = M.ret (.nx (eM ins outs S ((List.range S.length).map (nm ins S)) y6 none none none none none)) := by
  have l4 := h.l4
  refine ⟨lastN S.length, ?_⟩
  rw [forH_of (rng1_nat (k := S.length) (call1_of (x := .tup (S.map encR)) rfl (by simp)) (by omega)), rngD_nI]
  funext g
  obtain ⟨e, g', h1, rfl, rfl⟩ := for_run (O := [5]) (bd := nameB 6) (ρ := b_law_reduced2) (fun i e g' => e = eM ins outs S ((List.range i).map (nm ins S)) (lastN i) none none none none none ∧ g' = g) ((List.range S.length).map nI) (eM ins outs S [] none none none none none none) g ⟨rfl, rfl⟩ (by
      rintro i d e g2 hd ⟨rfl, rfl⟩
      obtain ⟨i', hi', rfl⟩ : ∃ i', (List.range S.length)[i]? = some i' ∧ nI i' = d := by
        rw [List.getElem?_map] at hd
        exact Option.map_eq_some_iff.mp hd
      have hin : i < S.length := by
        have := (List.getElem?_eq_some_iff.mp hi').1
        simpa using this
      rw [List.getElem?_range hin] at hi'
      cases hi'
      refine ⟨[(6, nI i)], rfl, rfl, _, _, .inl ?_, rfl, rfl⟩
      show b_law_reduced2 (eM ins outs S ((List.range i).map (nm ins S)) (some (nI i)) none none none none none) _ = _
      unfold b_law_reduced2
      have hv := name_of hs h (k := i) (by omega) (some (.str "machine")) (some (.int ins)) (some (.int outs)) none none none none none none none
      rw [appH_of (xs := ((List.range i).map (nm ins S)).map nI) (d := nI (nm ins S i)) rfl hv (by simp; unfold line; omega), range_snoc (nm ins S)]
      unfold eM
      rw [List.map_append]
      rfl)
  rw [h1, List.length_map, List.length_range]
  rfl
def ns_ (ins : Nat) (S : List MRow) : List Nat := (List.range S.length).map (nm ins S)
theorem name_at {t : Nat} (ht : t < S.length) : atI ((ns_ ins S).map nI) (t : Int) = some (nI (nm ins S t)) := by
  rw [VC.atI_nat, List.getElem?_map]
  unfold ns_
  rw [List.getElem?_map, List.getElem?_range ht]
  rfl
/-- the law's met ones are names -/
structure Own (ins : Nat) (S : List MRow) (O : List Nat) : Prop where
  m : Met (nm ins S) S.length O
  own : ∀ o ∈ O, nm ins S o = o
theorem Own.map {O : List Nat} (h : Own ins S O) : O.map (nm ins S) = O := by
  have := List.map_congr_left (l := O) (f := nm ins S) (g := id) fun o ho => h.own o ho
  rw [this, List.map_id]
theorem nm_ι (h : GM ins outs S) (t : Nat) (ht : t < S.length) : nm ins S t < S.length ∧ nm ins S (nm ins S t) = nm ins S t :=
  ⟨by have := (nm_props h ht).1; omega, nm_idem h ht⟩
theorem stp_own (h : GM ins outs S) {O : List Nat} {row : List (Nat × Nat)} (hO : Own ins S O) {q : Nat × Nat} (hq : q.2 < S.length) : Own ins S (stp (nm ins S) (nm ins S) (O, row) q).1 := by
  refine ⟨(stp_met (ι := nm ins S) (c := nm ins S) (m := S.length) (fun t ht => nm_ι h t ht) hq (p := (O, row)) hO.m).1, ?_⟩
  unfold stp
  by_cases hin : nm ins S q.2 ∈ O.map (nm ins S)
  · simp only [if_pos hin]
    exact hO.own
  · simp only [if_neg hin]
    intro o ho
    rcases List.mem_append.mp ho with ho | ho
    · exact hO.own o ho
    · rw [List.mem_singleton.mp ho]; exact nm_idem h hq
theorem fold_own (h : GM ins outs S) : ∀ (r : MRow) (p : List Nat × List (Nat × Nat)), (∀ q ∈ r, q.2 < S.length) → Own ins S p.1 → Own ins S (r.foldl (stp (nm ins S) (nm ins S)) p).1
  | [], _, _, h1 => h1
  | q :: r, p, hr, h1 => fold_own h r (stp (nm ins S) (nm ins S) p q) (fun x hx => hr x (List.mem_cons_of_mem _ hx)) (stp_own h (O := p.1) (row := p.2) h1 (hr q List.mem_cons_self))
def eR (ins outs : Nat) (S : List MRow) (O : List Nat) (x6 : Option D) (rows : D) (row : List (Nat × Nat)) (x10 x11 : Option D) : Slots :=
  [some (encM ins outs S), some (.str "machine"), some (.int ins), some (.int outs), some (.tup (S.map encR)), some (.lst ((ns_ ins S).map nI)), x6, some (.lst (O.map nI)), some rows, some (.lst (row.map encP)), x10, x11, none]
theorem shaped_nI (O : List Nat) : SeqAt.shaped (.list (toPys (O.map nI))) = true := by
  have h1 : ∀ O : List Nat, PyData.canLayAll0 (toPys (O.map nI)) = true := fun O => by
    induction O with
    | nil => rfl
    | cons o O ih =>
      rw [List.map_cons]
      show (PyData.canLay0 (toPy (nI o)) && PyData.canLayAll0 (toPys (O.map nI))) = true
      rw [ih]
      rfl
  have d1 : (PyData.list (toPys (O.map nI))).depth ≤ 64 := by
    show PyData.depthAll _ + 1 ≤ 64
    rw [depth_nI]
    decide
  unfold SeqAt.shaped
  rw [decide_eq_true d1, Bool.and_true]
  exact h1 O
theorem nI_inj (x y : Nat) (h : nI x = nI y) : x = y := by
  unfold nI at h
  injection h with h
  omega
theorem mem_nI {x : Nat} {O : List Nat} : nI x ∈ O.map nI ↔ x ∈ O := by
  rw [List.mem_map]
  constructor
  · rintro ⟨y, h, e⟩
    exact nI_inj _ _ e ▸ h
  · exact fun h => ⟨x, h, rfl⟩
theorem law_turn (h : GM ins outs S) {O : List Nat} (hO : Own ins S O) {row : List (Nat × Nat)} (hr : row.length < 100) {q : Nat × Nat} (hq : q.2 < S.length) (x6 : Option D) (rows : D) :
    b_law_reduced3 (eR ins outs S O x6 rows row (some (.int q.1)) (some (.int q.2))) = M.ret (.nx (eR ins outs S (stp (nm ins S) (nm ins S) (O, row) q).1 x6 rows (stp (nm ins S) (nm ins S) (O, row) q).2 (some (.int q.1)) (some (.int q.2)))) := by
  have l4 := h.l4
  have hfew := hO.m.few
  have hna := name_at (ins := ins) hq
  have hni : notInSD (nI (nm ins S q.2)) (.lst (O.map nI)) = some (.bl (!decide (nm ins S q.2 ∈ O))) := notInS_lst rfl (Nat.zero_le _) (pls_nI O) _ (by rw [decide_eq_true_eq]; exact mem_nI.symm)
  have htt : ifS (valT (bin2 notInSD (bin2 ixD (varE 5) (varE 11)) (varE 7))) (appF 7 (bin2 ixD (varE 5) (varE 11))) nxS (eR ins outs S O x6 rows row (some (.int q.1)) (some (.int q.2))) = M.ret (.nx (eR ins outs S (stp (nm ins S) (nm ins S) (O, row) q).1 x6 rows row (some (.int q.1)) (some (.int q.2)))) := by
    have hn : bin2 ixD (varE 5) (varE 11) (eR ins outs S O x6 rows row (some (.int q.1)) (some (.int q.2))) = M.ret (nI (nm ins S q.2)) := bin2_of (x := .lst ((ns_ ins S).map nI)) (y := .int q.2) rfl rfl hna
    have ht : valT (bin2 notInSD (bin2 ixD (varE 5) (varE 11)) (varE 7)) (eR ins outs S O x6 rows row (some (.int q.1)) (some (.int q.2))) = M.ret (!decide (nm ins S q.2 ∈ O)) := valT_of (bin2_of hn (y := .lst (O.map nI)) rfl hni)
    rw [ifS_of ht]
    unfold stp
    simp only
    rw [hO.map]
    by_cases hin : nm ins S q.2 ∈ O
    · simp only [if_pos hin]
      rw [decide_eq_true hin, if_neg (by decide)]
      rfl
    · simp only [if_neg hin]
      rw [decide_eq_false hin, if_pos (by decide), appF_eq]
      have hat : lstAt (eR ins outs S O x6 rows row (some (.int q.1)) (some (.int q.2))) 7 = some (O.map nI) := rfl
      rw [hat, ofO_someM, bnd_ret, hn, bnd_ret, if_pos ⟨rfl, by rw [List.length_map]; unfold line; omega⟩]
      unfold eR
      rw [List.map_append]
      rfl
  unfold b_law_reduced3
  rw [seqS_of htt]
  have hO' := stp_own h (row := row) hO hq
  have hmem : nm ins S q.2 ∈ (stp (nm ins S) (nm ins S) (O, row) q).1 := by
    unfold stp
    simp only
    rw [hO.map]
    by_cases hin : nm ins S q.2 ∈ O
    · simp only [if_pos hin]; exact hin
    · simp only [if_neg hin]
      exact List.mem_append_right _ (List.mem_singleton.mpr rfl)
  have hrow : (stp (nm ins S) (nm ins S) (O, row) q).2 = row ++ [(q.1, (((stp (nm ins S) (nm ins S) (O, row) q).1).map (nm ins S)).idxOf (nm ins S q.2))] := rfl
  rw [hrow, hO'.map]
  have hnd := nodup_of_map hO'.m.nd
  generalize (stp (nm ins S) (nm ins S) (O, row) q).1 = F' at hO' hmem hnd
  have hn : bin2 ixD (varE 5) (varE 11) (eR ins outs S F' x6 rows row (some (.int q.1)) (some (.int q.2))) = M.ret (nI (nm ins S q.2)) := bin2_of (x := .lst ((ns_ ins S).map nI)) (y := .int q.2) rfl rfl hna
  obtain ⟨p, hp, he⟩ := List.mem_iff_getElem.mp hmem
  have hpe : F'[p]? = some (nm ins S q.2) := by rw [List.getElem?_eq_getElem hp, he]
  have hidx : idxE (varE 7) (bin2 ixD (varE 5) (varE 11)) (eR ins outs S F' x6 rows row (some (.int q.1)) (some (.int q.2))) = M.ret (.int ((F'.idxOf (nm ins S q.2) : Nat) : Int)) := by
    unfold idxE
    show M.bnd (M.ofO (some (D.lst (F'.map nI)))) _ = _
    rw [ofO_someM, bnd_ret]
    show M.bnd (M.ofO (some (F'.map nI))) _ = _
    rw [ofO_someM, bnd_ret, hn, bnd_ret, idx_lst (j := p) rfl (pls_nI F') (shaped_nI F') rfl (nodup_map nI_inj hnd) (by rw [List.getElem?_map, hpe]; rfl), idxOf_at hnd hpe]
    rfl
  have hv : tupE (consA (varE 10) (consA (idxE (varE 7) (bin2 ixD (varE 5) (varE 11))) nilA)) (eR ins outs S F' x6 rows row (some (.int q.1)) (some (.int q.2))) = M.ret (encP (q.1, F'.idxOf (nm ins S q.2))) := tup2_of rfl hidx
  rw [appF_eq]
  have hat : lstAt (eR ins outs S F' x6 rows row (some (.int q.1)) (some (.int q.2))) 9 = some (row.map encP) := rfl
  rw [hat, ofO_someM, bnd_ret, hv, bnd_ret, if_pos ⟨rfl, by rw [List.length_map]; unfold line; omega⟩]
  unfold eR
  rw [List.map_append]
  rfl
theorem law_row (h : GM ins outs S) (x6 : Option D) (rows : D) : ∀ (r : MRow) (O : List Nat) (row : List (Nat × Nat)), Own ins S O → row.length + r.length < 100 → (∀ q ∈ r, q.2 < S.length) → ∀ x10 x11, ∃ y10 y11,
    forGo [5, 7, 8, 9] (tupB 2 (consB (nameB 10) (consB (nameB 11) nilB))) b_law_reduced3 (r.map encP) (eR ins outs S O x6 rows row x10 x11) = M.ret (.nx (eR ins outs S (r.foldl (stp (nm ins S) (nm ins S)) (O, row)).1 x6 rows (r.foldl (stp (nm ins S) (nm ins S)) (O, row)).2 y10 y11))
  | [], O, row, _, _, _, x10, x11 => ⟨x10, x11, rfl⟩
  | q :: r, O, row, hO, hl, hq, x10, x11 => by
    rw [List.length_cons] at hl
    have hq1 := hq q List.mem_cons_self
    have ht := law_turn h hO (row := row) (by omega) hq1 x6 rows
    have hrl : (stp (nm ins S) (nm ins S) (O, row) q).2.length = row.length + 1 := by unfold stp; simp
    obtain ⟨y10, y11, ih⟩ := law_row h x6 rows r (stp (nm ins S) (nm ins S) (O, row) q).1 (stp (nm ins S) (nm ins S) (O, row) q).2 (stp_own h hO hq1) (by omega) (fun x hx => hq x (List.mem_cons_of_mem _ hx)) (some (.int q.1)) (some (.int q.2))
    refine ⟨y10, y11, ?_⟩
    rw [List.map_cons, forGo_cons (l := [(10, .int q.1), (11, .int q.2)]) rfl rfl, List.foldl_cons]
    show M.bnd (b_law_reduced3 (eR ins outs S O x6 rows row (some (.int q.1)) (some (.int q.2)))) _ = _
    rw [ht, bnd_ret]
    exact ih
def eV (ins outs : Nat) (S : List MRow) (O : List Nat) (x6 : Option D) (rows : List MRow) (x9 x10 x11 : Option D) : Slots :=
  [some (encM ins outs S), some (.str "machine"), some (.int ins), some (.int outs), some (.tup (S.map encR)), some (.lst ((ns_ ins S).map nI)), x6, some (.lst (O.map nI)), some (.lst (rows.map encR)), x9, x10, x11, none]
abbrev rowOf (ins : Nat) (S : List MRow) (O : List Nat) (k : Nat) : List Nat × List (Nat × Nat) := rowG (nm ins S) (nm ins S) O ((S[(O[k]?).getD 0]?).getD [])
theorem law_body (hs : Sz ins outs) (h : GM ins outs S) {O : List Nat} (hO : Own ins S O) {rows : List MRow} (hr : rows.length < O.length) (x6 x9 x10 x11 : Option D) : ∃ y9 y10 y11,
    b_law_reduced4 (eV ins outs S O x6 rows x9 x10 x11) = M.ret (.nx (eV ins outs S (rowOf ins S O rows.length).1 x6 (rows ++ [(rowOf ins S O rows.length).2]) y9 y10 y11)) := by
  have l4 := h.l4
  have hi := pw_le hs.i
  have hfew := hO.m.few
  have e1 := List.getElem?_eq_getElem hr
  have hf := hO.m.lt _ (List.getElem_mem hr)
  have e2 := List.getElem?_eq_getElem hf
  have hmem := List.getElem_mem hf
  have hw := h.w _ hmem
  have he := h.e _ hmem
  unfold rowOf
  rw [e1, Option.getD_some, e2, Option.getD_some]
  have pF : atI (O.map nI) (rows.length : Int) = some (.int (O[rows.length] : Int)) := by rw [VC.atI_nat, List.getElem?_map, e1]; rfl
  have pS : atI (S.map encR) (O[rows.length] : Int) = some (encR (S[O[rows.length]]'hf)) := by rw [VC.atI_nat, List.getElem?_map, e2]; rfl
  generalize S[O[rows.length]]'hf = r at hw he pS
  obtain ⟨y10, y11, hl⟩ := law_row h x6 (.lst (rows.map encR)) r O [] hO (by simp; omega) (fun q hq => (he q hq).2) x10 x11
  unfold b_law_reduced4
  have f1 : asgNH [5, 7, 8] 9 (lstE nilA) (eV ins outs S O x6 rows x9 x10 x11) = M.ret (.nx (eR ins outs S O x6 (.lst (rows.map encR)) [] x10 x11)) := asgNH_of rfl
  rw [seqS_of f1]
  have f2 : forT [5, 7, 8, 9] (bin2 ixD (varE 4) (bin2 ixD (varE 7) (callE lenL (consA (varE 8) nilA)))) (tupB 2 (consB (nameB 10) (consB (nameB 11) nilB))) b_law_reduced3 (eR ins outs S O x6 (.lst (rows.map encR)) [] x10 x11) = M.ret (.nx (eR ins outs S (rowG (nm ins S) (nm ins S) O r).1 x6 (.lst (rows.map encR)) (rowG (nm ins S) (nm ins S) O r).2 y10 y11)) := by
    have hit : bin2 ixD (varE 4) (bin2 ixD (varE 7) (callE lenL (consA (varE 8) nilA))) (eR ins outs S O x6 (.lst (rows.map encR)) [] x10 x11) = M.ret (encR r) := bin2_of (x := .tup (S.map encR)) (y := .int O[rows.length]) rfl (bin2_of (x := .lst (O.map nI)) (y := .int (rows.length : Int)) rfl (call1_of (x := .lst (rows.map encR)) rfl (by simp)) pF) pS
    unfold forT
    rw [hit, bnd_ret]
    have : tupO (encR r) = some (r.map encP) := by
      show (if flats (r.map encP) = true then _ else none) = _
      rw [if_pos (flats_encP r)]
    rw [this, ofO_someM, bnd_ret]
    exact hl
  rw [seqS_of f2]
  refine ⟨some (.lst ((rowG (nm ins S) (nm ins S) O r).2.map encP)), y10, y11, ?_⟩
  rw [appF_eq]
  have hat : lstAt (eR ins outs S (rowG (nm ins S) (nm ins S) O r).1 x6 (.lst (rows.map encR)) (rowG (nm ins S) (nm ins S) O r).2 y10 y11) 8 = some (rows.map encR) := rfl
  have hv : callE tupL (consA (varE 9) nilA) (eR ins outs S (rowG (nm ins S) (nm ins S) O r).1 x6 (.lst (rows.map encR)) (rowG (nm ins S) (nm ins S) O r).2 y10 y11) = M.ret (encR (rowG (nm ins S) (nm ins S) O r).2) := call1_of rfl rfl
  rw [hat, ofO_someM, bnd_ret, hv, bnd_ret, if_pos ⟨flats_encP _, by rw [List.length_map]; unfold line; omega⟩]
  unfold eV eR
  rw [List.map_append]
  rfl
theorem law_while (hs : Sz ins outs) (h : GM ins outs S) (x6 : Option D) (g : Bag) : ∃ env' g', whileS (valT (bin2 ltD (callE lenL (consA (varE 8) nilA)) (callE lenL (consA (varE 7) nilA)))) b_law_reduced4 (eV ins outs S [0] x6 [] none none none) g = .ok (.nx env') g' ∧ g' = g ∧ ∃ O x9 x10 x11, env' = eV ins outs S O x6 (numG (nm ins S) (nm ins S) S 5 [0] []) x9 x10 x11 := by
  have l1 := h.l1
  have l4 := h.l4
  have n0 : nm ins S 0 = 0 := by have := (nm_props h (i := 0) (by omega)).1; omega
  refine while_run (fun n env g' => g' = g ∧ ∃ O rows x9 x10 x11, env = eV ins outs S O x6 rows x9 x10 x11 ∧ Own ins S O ∧ rows.length + n = 5 ∧ numG (nm ins S) (nm ins S) S n O rows = numG (nm ins S) (nm ins S) S 5 [0] []) (fun env' g' => g' = g ∧ ∃ O x9 x10 x11, env' = eV ins outs S O x6 (numG (nm ins S) (nm ins S) S 5 [0] []) x9 x10 x11) ?_ 5 _ _
    ⟨rfl, [0], [], none, none, none, rfl, ⟨⟨by simp, fun f hf => by rw [List.mem_singleton.mp hf]; exact l1⟩, fun o ho => by rw [List.mem_singleton.mp ho]; exact n0⟩, rfl, rfl⟩
  rintro n env g' ⟨rfl, O, rows, x9, x10, x11, rfl, hO, hn, hN⟩
  have hfew := hO.m.few
  have ht : valT (bin2 ltD (callE lenL (consA (varE 8) nilA)) (callE lenL (consA (varE 7) nilA))) (eV ins outs S O x6 rows x9 x10 x11) = M.ret (decide (rows.length < O.length)) := by
    refine valT_of (bin2_of (x := .int (rows.length : Int)) (y := .int (O.length : Int)) (call1_of (x := .lst (rows.map encR)) rfl (by simp)) (call1_of (x := .lst (O.map nI)) rfl (by simp)) ?_)
    rw [ltD_ii]
    congr 2
    rw [decide_eq_decide]
    omega
  refine ⟨decide (rows.length < O.length), g', by rw [ht]; rfl, fun hb => ?_, fun hb => ?_⟩
  · have hr := of_decide_eq_true hb
    obtain ⟨y9, y10, y11, hbd⟩ := law_body hs h hO hr x6 x9 x10 x11
    have e1 := List.getElem?_eq_getElem hr
    have hf := hO.m.lt _ (List.getElem_mem hr)
    have e2 := List.getElem?_eq_getElem hf
    have hrow : ((S[(O[rows.length]?).getD 0]?).getD []) ∈ S := by rw [e1, Option.getD_some, e2, Option.getD_some]; exact List.getElem_mem hf
    have hm1 := fold_own h ((S[(O[rows.length]?).getD 0]?).getD []) (O, []) (fun q hq => (h.e _ hrow q hq).2) hO
    obtain ⟨k, rfl⟩ : ∃ k, n = k + 1 := ⟨n - 1, by omega⟩
    refine ⟨_, g', k, .inl (by rw [hbd]; rfl), by omega, rfl, _, _, y9, y10, y11, rfl, hm1, by rw [List.length_append, List.length_singleton]; omega, ?_⟩
    rw [← hN]
    rw [show numG (nm ins S) (nm ins S) S (k + 1) O rows = if rows.length < O.length then numG (nm ins S) (nm ins S) S k (rowOf ins S O rows.length).1 (rows ++ [(rowOf ins S O rows.length).2]) else rows from rfl, if_pos hr]
    rfl
  · have hr := of_decide_eq_false hb
    refine ⟨rfl, O, x9, x10, x11, ?_⟩
    rw [← hN]
    cases n with
    | zero => rfl
    | succ k =>
      rw [show numG (nm ins S) (nm ins S) S (k + 1) O rows = if rows.length < O.length then numG (nm ins S) (nm ins S) S k (rowOf ins S O rows.length).1 (rows ++ [(rowOf ins S O rows.length).2]) else rows from rfl, if_neg hr]
theorem law_reduced_eq (hs : Sz ins outs) (h : GM ins outs S) (g : Bag) : r__law_reduced [encM ins outs S] g = .ok (encM ins outs (numG (nm ins S) (nm ins S) S 5 [0] [])) g := by
  have l1 := h.l1
  have n0 : nm ins S 0 = 0 := by have := (nm_props h (i := 0) (by omega)).1; omega
  obtain ⟨y6, hn⟩ := names_loop hs h
  obtain ⟨env', g', h1, rfl, O, x9, x10, x11, rfl⟩ := law_while hs h y6 g
  refine fnD_ok (env := [some (encM ins outs S), none, none, none, none, none, none, none, none, none, none, none, none]) rfl ?_
  unfold s__law_reduced
  have f1 : unpH [] (tupB 4 (consB (nameB 1) (consB (nameB 2) (consB (nameB 3) (consB (nameB 4) nilB))))) (varE 0) [some (encM ins outs S), none, none, none, none, none, none, none, none, none, none, none, none] = M.ret (.nx [some (encM ins outs S), some (.str "machine"), some (.int ins), some (.int outs), some (.tup (S.map encR)), none, none, none, none, none, none, none, none]) := by
    simp [encM]
  rw [seqS_of f1]
  have f2 : asgNH [] 5 (lstE nilA) [some (encM ins outs S), some (.str "machine"), some (.int ins), some (.int outs), some (.tup (S.map encR)), none, none, none, none, none, none, none, none] = M.ret (.nx (eM ins outs S [] none none none none none none)) := asgNH_of rfl
  rw [seqS_of f2, seqS_of hn]
  have f3 : asgN 7 (lstE (consA (bin2 ixD (varE 5) (cE (.int 0))) nilA)) (eM ins outs S ((List.range S.length).map (nm ins S)) y6 none none none none none) = M.ret (.nx ((eM ins outs S ((List.range S.length).map (nm ins S)) y6 none none none none none).set 7 (some (.lst [nI 0])))) := by
    have hv : bin2 ixD (varE 5) (cE (.int 0)) (eM ins outs S ((List.range S.length).map (nm ins S)) y6 none none none none none) = M.ret (nI 0) := by
      have := name_at (ins := ins) (S := S) (t := 0) (by omega)
      rw [n0] at this
      exact bin2_of (x := .lst ((ns_ ins S).map nI)) (y := .int 0) rfl rfl this
    rw [asgN_eq, lstE_eq, consA_eq, hv, bnd_ret]
    rfl
  rw [seqS_of f3]
  have f4 : asgNH [5, 7] 8 (lstE nilA) ((eM ins outs S ((List.range S.length).map (nm ins S)) y6 none none none none none).set 7 (some (.lst [nI 0]))) = M.ret (.nx (eV ins outs S [0] y6 [] none none none)) := asgNH_of rfl
  rw [seqS_of f4, seqS_ok h1]
  rfl
end
end K66

/-! K66t: reduced is the law's own; what is drawn. -/
namespace K66
open PySem PySem.Spec L2 RZ VC
open PyProof.Rows hiding St

section
variable {ins outs : Nat} {S : List MRow}
theorem reduced_eq (hs : Sz ins outs) (h : GM ins outs S) (g : Bag) : ∃ g', r_reduced [encM ins outs S] g = .ok (encM ins outs (numG (nm ins S) (nm ins S) S 5 [0] [])) g' := by
  have l1 := h.l1
  obtain ⟨cs, g', h1, hb, hcl, hiff, hst⟩ := classes_eq hs h g
  have h2 := numbered_eq hs h hcl g'
  have hm : ∀ t, t < S.length → id t < S.length ∧ nm ins S (id t) = nm ins S t := fun t ht => ⟨ht, rfl⟩
  have hconv : numG id (fAt cs) S 5 [0] [] = numG (nm ins S) (nm ins S) S 5 [0] [] := by
    refine numG_conv (m := S.length) (fun i j hi hj => ?_) hm (fun t ht => nm_ι h t ht) (fun i j hi hj e => ?_) 5 [0] [0] [] (fun f hf => by rw [List.mem_singleton.mp hf]; exact l1) (fun f hf => by rw [List.mem_singleton.mp hf]; exact l1) rfl
    · rw [hiff i j hi hj, nm_iff h hi hj]
    · have a := hst i j hi hj ((nm_iff h hi hj).mp e)
      have ei := List.getElem?_eq_getElem hi
      have ej := List.getElem?_eq_getElem hj
      have wi := h.w _ (List.getElem_mem hi)
      have wj := h.w _ (List.getElem_mem hj)
      have gi := h.e _ (List.getElem_mem hi)
      have gj := h.e _ (List.getElem_mem hj)
      have ai : ∀ g, at2 S i g = S[i][g]? := fun g => by unfold at2; rw [ei]; rfl
      have aj : ∀ g, at2 S j g = S[j][g]? := fun g => by unfold at2; rw [ej]; rfl
      rw [ei, ej, Option.getD_some, Option.getD_some]
      refine ⟨by rw [wi, wj], fun g q q' hq hq' => ?_⟩
      have hg : g < 2 ^ ins := by rw [← wi]; exact (List.getElem?_eq_some_iff.mp hq).1
      obtain ⟨x, y, e1, e2, e3, e4⟩ := a g hg
      rw [ai, hq] at e1
      rw [aj, hq'] at e2
      cases e1
      cases e2
      have b1 := (gi q (List.mem_of_getElem? hq)).2
      have b2 := (gj q' (List.mem_of_getElem? hq')).2
      exact ⟨b1, b2, e3, (nm_iff h b1 b2).mpr e4⟩
  rw [hconv] at h2
  refine ⟨g', fnD_ok (env := [some (encM ins outs S)]) rfl ?_⟩
  unfold s_reduced
  have k1 := machine_ok hs h
  have f1 : ifS (notT (valT (fnE r_is_machine (consA (varE 0) nilA) p_is_machine.length))) (raiseS 0 (cE (.int 0))) nxS [some (encM ins outs S)] = M.ret (.nx [some (encM ins outs S)]) := by simp [k1]
  rw [seqS_of f1]
  refine retS_at (bin2_at (x := .tup [.str "machine", .int ins, .int outs]) (y := .tup [.tup ((numG (nm ins S) (nm ins S) S 5 [0] []).map encR)]) (g' := g) ?_ ?_ ?_)
  · have c2 : slD (encM ins outs S) none (some 3) = some (.tup [.str "machine", .int ins, .int outs]) := rfl
    simp [c2]
    rfl
  · have hx : bin2 ixD (varE 0) (cE (.int 3)) [some (encM ins outs S)] = M.ret (.tup (S.map encR)) := bin2_of (x := encM ins outs S) (y := .int 3) rfl rfl rfl
    have hcx : fnE r_classes_of (consA (bin2 ixD (varE 0) (cE (.int 3))) nilA) p_classes_of.length [some (encM ins outs S)] g = .ok (.lst (cs.map nI)) g' := fnE_at (args1 hx) rfl h1
    have hargs : consA (bin2 ixD (varE 0) (cE (.int 3))) (consA (fnE r_classes_of (consA (bin2 ixD (varE 0) (cE (.int 3))) nilA) p_classes_of.length) nilA) [some (encM ins outs S)] g = .ok [.tup (S.map encR), .lst (cs.map nI)] g' := consA_at (g' := g) (by rw [hx]; rfl) (args1_at hcx)
    refine tupE_at (args1_at ?_) (by simp)
    rw [fnE_eq, bnd_okM hargs]
    show noX (r_numbered _) g' = _
    exact noX_okM h2
  · rfl
end
/-! ### what is drawn -/
theorem draw_nat {many : Nat} (h : 0 < many ∧ many < 1000000) (g : Bag) : ∃ (v : Nat) (g' : Bag), r__law_draw [.bag, .int many] g = .ok (.int v) g' ∧ v < many := by
  obtain ⟨v, g', h1, h2, h3⟩ := draw_at (many := (many : Int)) (by omega) g
  refine ⟨v.toNat, g', ?_, by omega⟩
  rw [show ((v.toNat : Nat) : Int) = v by omega]
  exact h1
theorem list_of {α : Type} {enc : α → D} {P : α → Prop} : ∀ {xs : List D}, (∀ v ∈ xs, ∃ p, v = enc p ∧ P p) → ∃ r : List α, xs = r.map enc ∧ ∀ p ∈ r, P p
  | [], _ => ⟨[], rfl, fun _ z => by cases z⟩
  | x :: xs, h => by
    obtain ⟨p, rfl, hp⟩ := h x List.mem_cons_self
    obtain ⟨r, rfl, hr⟩ := list_of fun v hv => h v (List.mem_cons_of_mem _ hv)
    exact ⟨p :: r, rfl, fun q hq => by
      rcases List.mem_cons.mp hq with rfl | hq
      · exact hp
      · exact hr q hq⟩
theorem draw_e {a b : EX} {env : Slots} {many : Nat} (ha : a env = M.ret .bag) (hb : b env = M.ret (.int many)) (h : 0 < many ∧ many < 1000000) (g : Bag) : ∃ (v : Nat) (g' : Bag), fnE r__law_draw (consA a (consA b nilA)) p__law_draw.length env g = .ok (.int v) g' ∧ v < many := by
  obtain ⟨v, g', h1, h2⟩ := draw_nat h g
  exact ⟨v, g', fnE_at (args2 ha hb) rfl h1, h2⟩
theorem row_draw {ins outs many : Nat} (hs : Sz ins outs) (hm : 1 ≤ many ∧ many ≤ 4) (x2 x3 x5 x6 x7 : Option D) (g : Bag) : ∃ (r : MRow) (g' : Bag), e_law_machine1 [some .bag, some (.int ins), some (.int outs), x3, some (.int many), x5, x6, x7] g = .ok (.lst (r.map encP)) g' ∧ r.length = 2 ^ ins ∧ ∀ p ∈ r, p.1 < 2 ^ outs ∧ p.2 < many := by
  have i2 := hs.i
  have o2 := hs.o
  have hi := pw_le hs.i
  have ho := pw_le hs.o
  have hp := pw_pos outs
  have h1 := shl_one ins (by omega)
  have h2 := shl_one outs (by omega)
  obtain ⟨xs, g', e1, e2, e3⟩ := lc_draw (ι := rng1I (consA (bin2 shlD (cE (.int 1)) (varE 1)) nilA)) (bd := nameB 7) (ρ := tupE (consA (fnE r__law_draw (consA (varE 0) (consA (bin2 shlD (cE (.int 1)) (varE 2)) nilA)) p__law_draw.length) (consA (fnE r__law_draw (consA (varE 0) (consA (varE 4) nilA)) p__law_draw.length) nilA))) (vs := [7]) (env := [some .bag, some (.int ins), some (.int outs), x3, some (.int many), x5, x6, x7]) (g := g) (g' := g) (fun v => ∃ p : Nat × Nat, v = encP p ∧ p.1 < 2 ^ outs ∧ p.2 < many) ((List.range (2 ^ ins)).map nI) (by
    rw [rng1_nat (k := 2 ^ ins) (bin2_of (x := .int 1) (y := .int ins) rfl rfl h1) (by omega), rngD_nI]
    rfl) (by rw [List.length_map, List.length_range]; unfold line; omega) fun d hd => by
      refine ⟨[(7, d)], rfl, fun g => ?_⟩
      obtain ⟨v, g1, a1, a2⟩ := draw_e (a := varE 0) (b := bin2 shlD (cE (.int 1)) (varE 2)) (env := [some .bag, some (.int ins), some (.int outs), x3, some (.int many), x5, x6, some d]) (many := 2 ^ outs) rfl (bin2_of (x := .int 1) (y := .int outs) rfl rfl h2) (by omega) g
      obtain ⟨u, g2, b1, b2⟩ := draw_e (a := varE 0) (b := varE 4) (env := [some .bag, some (.int ins), some (.int outs), x3, some (.int many), x5, x6, some d]) (many := many) rfl rfl (by omega) g1
      exact ⟨encP (v, u), g2, tupE_at (consA_at a1 (args1_at b1)) (by simp), (v, u), rfl, a2, b2⟩
  obtain ⟨r, rfl, hr⟩ := list_of e3
  refine ⟨r, g', e1, ?_, hr⟩
  simpa using e2
theorem machine_draw {ins outs : Nat} (hs : Sz ins outs) (g : Bag) : ∃ (S : List MRow) (g' : Bag), r__law_machine [.bag, .int ins, .int outs, .int 4] g = .ok (encM ins outs S) g' ∧ GM ins outs S := by
  obtain ⟨v, g1, a1, a2⟩ := draw_e (a := varE 0) (b := varE 3) (env := [some .bag, some (.int ins), some (.int outs), some (.int 4), none, none, none, none]) (many := 4) rfl rfl (by omega) g
  obtain ⟨e, g', h1, rows, x6, rfl, hlen, hrows⟩ := for_run (O := [5]) (bd := nameB 6) (ρ := b_law_machine2) (fun i e _ => ∃ (rows : List MRow) (x6 : Option D), e = [some .bag, some (.int ins), some (.int outs), some (.int 4), some (.int ((v + 1 : Nat) : Int)), some (.lst (rows.map encR)), x6, none] ∧ rows.length = i ∧ ∀ r ∈ rows, r.length = 2 ^ ins ∧ ∀ p ∈ r, p.1 < 2 ^ outs ∧ p.2 < v + 1) (rngD 0 (v + 1)) _ g1 ⟨[], none, rfl, rfl, fun _ z => by cases z⟩ (by
    rintro i d e g2 hd ⟨rows, x6, rfl, hlen, hrows⟩
    have hin : i < v + 1 := by
      have := (List.getElem?_eq_some_iff.mp hd).1
      rw [rngD_length] at this
      exact this
    obtain ⟨r, g3, b1, b2, b3⟩ := row_draw hs (many := v + 1) (by omega) none (some (.int 4)) none (some d) none g2
    have hrd : e_law_machine1 (hide [5] [some .bag, some (.int ins), some (.int outs), some (.int 4), some (.int ((v + 1 : Nat) : Int)), some (.lst (rows.map encR)), some d, none]) g2 = .ok (.lst (r.map encP)) g3 := b1
    refine ⟨[(6, d)], rfl, rfl, _, g3, .inl (appH_at (xs := rows.map encR) rfl (call1_at hrd rfl) (by rw [List.length_map]; unfold line; omega)), rows ++ [r], some d, by rw [List.map_append]; rfl, by rw [List.length_append, List.length_singleton, hlen], fun r' hr' => ?_⟩
    rcases List.mem_append.mp hr' with hr' | hr'
    · exact hrows r' hr'
    · rw [List.mem_singleton.mp hr']; exact ⟨b2, b3⟩)
  rw [rngD_length] at hlen
  refine ⟨rows, g', fnD_ok (env := [some .bag, some (.int ins), some (.int outs), some (.int 4), none, none, none, none]) rfl ?_, by omega, by omega, fun r hr => (hrows r hr).1, fun r hr p hp => by rw [hlen]; exact (hrows r hr).2 p hp⟩
  unfold s__law_machine
  have f1 : asgH [] 4 (bin2 addD (cE (.int 1)) (fnE r__law_draw (consA (varE 0) (consA (varE 3) nilA)) p__law_draw.length)) [some .bag, some (.int ins), some (.int outs), some (.int 4), none, none, none, none] g = .ok (.nx [some .bag, some (.int ins), some (.int outs), some (.int 4), some (.int ((v + 1 : Nat) : Int)), none, none, none]) g1 := by
    refine asgH_at (bin2_at (x := .int 1) (y := .int v) (g' := g) rfl a1 ?_)
    rw [addD_ii]
    congr 2
    omega
  rw [seqS_ok f1]
  have f2 : asgNH [] 5 (lstE nilA) [some .bag, some (.int ins), some (.int outs), some (.int 4), some (.int ((v + 1 : Nat) : Int)), none, none, none] = M.ret (.nx [some .bag, some (.int ins), some (.int outs), some (.int 4), some (.int ((v + 1 : Nat) : Int)), some (.lst []), none, none]) := asgNH_of rfl
  rw [seqS_of f2]
  have f3 : forH [5] (rng1I (consA (varE 4) nilA)) (nameB 6) b_law_machine2 [some .bag, some (.int ins), some (.int outs), some (.int 4), some (.int ((v + 1 : Nat) : Int)), some (.lst []), none, none] g1 = .ok (.nx [some .bag, some (.int ins), some (.int outs), some (.int 4), some (.int ((v + 1 : Nat) : Int)), some (.lst (rows.map encR)), x6, none]) g' := by
    rw [forH_of (rng1_nat (k := v + 1) rfl (by omega))]
    exact h1
  rw [seqS_ok f3]
  rfl
theorem brow_draw {ins outs many : Nat} (hs : Sz ins outs) (hm : 1 ≤ many ∧ many ≤ 4) (x4 x5 x6 : Option D) (g : Bag) : ∃ (ns : List Nat) (g' : Bag), e_law_breaker1 [some .bag, some (.int ins), some (.int outs), some (.int many), x4, x5, x6] g = .ok (.lst (ns.map nI)) g' ∧ ns.length = 2 ^ outs ∧ ∀ x ∈ ns, x < many := by
  have o2 := hs.o
  have ho := pw_le hs.o
  have h2 := shl_one outs (by omega)
  obtain ⟨xs, g', e1, e2, e3⟩ := lc_draw (ι := rng1I (consA (bin2 shlD (cE (.int 1)) (varE 2)) nilA)) (bd := nameB 6) (ρ := fnE r__law_draw (consA (varE 0) (consA (varE 3) nilA)) p__law_draw.length) (vs := [6]) (env := [some .bag, some (.int ins), some (.int outs), some (.int many), x4, x5, x6]) (g := g) (g' := g) (fun v => ∃ p : Nat, v = nI p ∧ p < many) ((List.range (2 ^ outs)).map nI) (by
    rw [rng1_nat (k := 2 ^ outs) (bin2_of (x := .int 1) (y := .int outs) rfl rfl h2) (by omega), rngD_nI]
    rfl) (by rw [List.length_map, List.length_range]; unfold line; omega) fun d hd => by
      refine ⟨[(6, d)], rfl, fun g => ?_⟩
      obtain ⟨v, g1, a1, a2⟩ := draw_e (a := varE 0) (b := varE 3) (env := [some .bag, some (.int ins), some (.int outs), some (.int many), x4, x5, some d]) (many := many) rfl rfl (by omega) g
      exact ⟨nI v, g1, a1, v, rfl, a2⟩
  obtain ⟨r, rfl, hr⟩ := list_of e3
  refine ⟨r, g', e1, ?_, hr⟩
  simpa using e2
theorem breaker_draw {ins outs : Nat} (hs : Sz ins outs) (g : Bag) : ∃ (B : List BRow) (g' : Bag), r__law_breaker [.bag, .int ins, .int outs] g = .ok (encB ins outs B) g' ∧ GB ins outs B := by
  have i2 := hs.i
  have hi := pw_le hs.i
  have hp := pw_pos ins
  have hsi := shl_one ins (by omega)
  obtain ⟨v, g1, a1, a2⟩ := draw_e (a := varE 0) (b := cE (.int 4)) (env := [some .bag, some (.int ins), some (.int outs), none, none, none, none]) (many := 4) rfl rfl (by omega) g
  obtain ⟨e, g', h1, rows, x5, rfl, hlen, hrows⟩ := for_run (O := [4]) (bd := nameB 5) (ρ := b_law_breaker2) (fun i e _ => ∃ (rows : List BRow) (x5 : Option D), e = [some .bag, some (.int ins), some (.int outs), some (.int ((v + 1 : Nat) : Int)), some (.lst (rows.map encBR)), x5, none] ∧ rows.length = i ∧ ∀ b ∈ rows, b.1 < 2 ^ ins ∧ b.2.length = 2 ^ outs ∧ ∀ x ∈ b.2, x < v + 1) (rngD 0 (v + 1)) _ g1 ⟨[], none, rfl, rfl, fun _ z => by cases z⟩ (by
    rintro i d e g2 hd ⟨rows, x5, rfl, hlen, hrows⟩
    have hin : i < v + 1 := by
      have := (List.getElem?_eq_some_iff.mp hd).1
      rw [rngD_length] at this
      exact this
    obtain ⟨u, g3, c1, c2⟩ := draw_e (a := varE 0) (b := bin2 shlD (cE (.int 1)) (varE 1)) (env := hide [4] [some .bag, some (.int ins), some (.int outs), some (.int ((v + 1 : Nat) : Int)), some (.lst (rows.map encBR)), some d, none]) (many := 2 ^ ins) rfl (bin2_of (x := .int 1) (y := .int ins) rfl rfl hsi) (by omega) g2
    obtain ⟨ns, g4, b1, b2, b3⟩ := brow_draw hs (many := v + 1) (by omega) none (some d) none g3
    have hrd : e_law_breaker1 (hide [4] [some .bag, some (.int ins), some (.int outs), some (.int ((v + 1 : Nat) : Int)), some (.lst (rows.map encBR)), some d, none]) g3 = .ok (.lst (ns.map nI)) g4 := b1
    refine ⟨[(5, d)], rfl, rfl, _, g4, .inl (appH_at (xs := rows.map encBR) (d := encBR (u, ns)) rfl (tupE_at (consA_at c1 (args1_at (call1_at hrd rfl))) (by simp)) (by rw [List.length_map]; unfold line; omega)), rows ++ [(u, ns)], some d, by rw [List.map_append]; rfl, by rw [List.length_append, List.length_singleton, hlen], fun r' hr' => ?_⟩
    rcases List.mem_append.mp hr' with hr' | hr'
    · exact hrows r' hr'
    · rw [List.mem_singleton.mp hr']; exact ⟨c2, b2, b3⟩)
  rw [rngD_length] at hlen
  refine ⟨rows, g', fnD_ok (env := [some .bag, some (.int ins), some (.int outs), none, none, none, none]) rfl ?_, by omega, by omega, fun r hr => (hrows r hr).1, fun r hr => (hrows r hr).2.1, fun r hr p hp => by rw [hlen]; exact (hrows r hr).2.2 p hp⟩
  unfold s__law_breaker
  have f1 : asgH [] 3 (bin2 addD (cE (.int 1)) (fnE r__law_draw (consA (varE 0) (consA (cE (.int 4)) nilA)) p__law_draw.length)) [some .bag, some (.int ins), some (.int outs), none, none, none, none] g = .ok (.nx [some .bag, some (.int ins), some (.int outs), some (.int ((v + 1 : Nat) : Int)), none, none, none]) g1 := by
    refine asgH_at (bin2_at (x := .int 1) (y := .int v) (g' := g) rfl a1 ?_)
    rw [addD_ii]
    congr 2
    omega
  rw [seqS_ok f1]
  have f2 : asgNH [] 4 (lstE nilA) [some .bag, some (.int ins), some (.int outs), some (.int ((v + 1 : Nat) : Int)), none, none, none] = M.ret (.nx [some .bag, some (.int ins), some (.int outs), some (.int ((v + 1 : Nat) : Int)), some (.lst []), none, none]) := asgNH_of rfl
  rw [seqS_of f2]
  have f3 : forH [4] (rng1I (consA (varE 3) nilA)) (nameB 5) b_law_breaker2 [some .bag, some (.int ins), some (.int outs), some (.int ((v + 1 : Nat) : Int)), some (.lst []), none, none] g1 = .ok (.nx [some .bag, some (.int ins), some (.int outs), some (.int ((v + 1 : Nat) : Int)), some (.lst (rows.map encBR)), x5, none]) g' := by
    rw [forH_of (rng1_nat (k := v + 1) rfl (by omega))]
    exact h1
  rw [seqS_ok f3]
  rfl
end K66

/-! K66u: what is none; the lasso follows. -/
namespace K66
open PySem PySem.Spec L2 RZ VC
open PyProof.Rows hiding St

theorem consA_of {a : EX} {b : AX} {env : Slots} {x : D} {xs : List D} (h1 : a env = M.ret x) (h2 : b env = M.ret xs) : consA a b env = M.ret (x :: xs) := by
  rw [consA_eq, h1, bnd_ret, h2]
  rfl
theorem addT {xs ys : List D} (h : xs.length + ys.length ≤ line) : addD (.tup xs) (.tup ys) = some (.tup (xs ++ ys)) := by
  show (if _ then _ else _) = _
  rw [if_pos h]
theorem flat_rep {α : Type} (x : α) : ∀ n : Nat, (List.replicate n [x]).flatten = List.replicate n x
  | 0 => rfl
  | n + 1 => by rw [List.replicate_succ, List.replicate_succ, List.flatten_cons, flat_rep x n]; rfl
section
variable {ins outs : Nat} {S : List MRow} {B : List BRow}
def badR (ins : Nat) (p : Nat × Nat) : MRow := List.replicate (2 ^ ins) p
def wl (ins outs : Nat) (S : List MRow) (B : List BRow) : List D :=
  [.non, .tup [.str "machine", .int ins, .int outs, .tup []], .tup [.str "machines", .int ins, .int outs, .tup (S.map encR)], .tup [.str "machine", .int ins, .int outs, .lst (S.map encR)], encM ins outs (S ++ [[]]),
    encM ins outs (badR ins (0, S.length) :: S.tail), .tup [.str "machine", .int 3, .int 2, .tup (S.map encR)], encM ins outs (badR ins (2 ^ outs, 0) :: S.tail), .tup [.str "machine", .bl true, .int outs, .tup (S.map encR)],
    encB ins outs (B ++ [(2 ^ ins, ((B[0]?).getD (0, [])).2)]), .tup [.str "breaker", .int 0, .int 0, .tup [.tup [.int 0, .tup [.int 0]]]]]
theorem wl_bad (hs : Sz ins outs) (hM : GM ins outs S) (hB : GB ins outs B) : ∀ w ∈ wl ins outs S B, r_is_machine [w] = M.ret (.bl false) ∧ r_is_breaker [w] = M.ret (.bl false) := by
  have i2 := hs.i
  have o2 := hs.o
  have s1 := hs.s1
  have s3 := hs.s3
  have pi := pw_pos ins
  have pi4 := pw_le hs.i
  have po4 := pw_le hs.o
  have l1 := hM.l1
  have l4 := hM.l4
  have b1 := hB.l1
  have hne : ("machine" : Str) ≠ "breaker" := by decide
  have badlen : ∀ p, (badR ins p).length = 2 ^ ins := fun p => List.length_replicate
  have badall : ∀ p m, okA outs m p = false → ¬ ((badR ins p).length = 2 ^ ins ∧ (badR ins p).all (okA outs m) = true) := fun p m hp z => by
    have := List.all_eq_true.mp z.2 p (by unfold badR; rw [List.mem_replicate]; exact ⟨by omega, rfl⟩)
    rw [hp] at this
    cases this
  have htl : S.tail.length = S.length - 1 := List.length_tail
  intro w hw
  simp only [wl, List.mem_cons, List.not_mem_nil, or_false] at hw
  rcases hw with rfl | rfl | rfl | rfl | rfl | rfl | rfl | rfl | rfl | rfl | rfl
  · exact ⟨machine_no (head_non _), breaker_no (head_non _)⟩
  · refine ⟨machine_no ?_, breaker_no (head_word hne _ _ _)⟩
    rw [head_tup "machine" ins outs (by omega) (by omega) []]
    simp
  · exact ⟨machine_no (head_word (by decide) _ _ _), breaker_no (head_word (by decide) _ _ _)⟩
  · exact ⟨machine_no (head_lst "machine" ins outs (by omega) (by omega) s1 (by omega) _), breaker_no (head_word hne _ _ _)⟩
  · exact ⟨machine_bad hs [] [] (fun r hr => ⟨hM.w r hr, okA_of hM (by omega) hr⟩) (Nat.zero_le _) (fun z => by have := z.1; simp at this; omega), breaker_machine _ _ _⟩
  · refine ⟨machine_bad hs (S := []) (badR ins (0, S.length)) S.tail (fun r hr => by cases hr) (by rw [badlen]; omega) (badall _ _ ?_), breaker_machine _ _ _⟩
    unfold okA
    simp
    intro _
    omega
  · refine ⟨machine_no ?_, breaker_no (head_word hne _ _ _)⟩
    have := head_tup "machine" 3 2 (by omega) (by omega) (S.map encR)
    rw [show (decide (1 ≤ 3 + 2 ∧ 3 + 2 ≤ 4) && decide (0 < (S.map encR).length)) = false from rfl] at this
    exact this
  · refine ⟨machine_bad hs (S := []) (badR ins (2 ^ outs, 0)) S.tail (fun r hr => by cases hr) (by rw [badlen]; omega) (badall _ _ ?_), breaker_machine _ _ _⟩
    unfold okA
    simp
  · exact ⟨machine_no (head_bl "machine" true _ _), breaker_no (head_word hne _ _ _)⟩
  · refine ⟨machine_breaker _ _ _, breaker_bad hs hB _ ?_ (by simp)⟩
    have e := List.getElem?_eq_getElem (show 0 < B.length by omega)
    rw [e, Option.getD_some, hB.w _ (List.getElem_mem _)]
    omega
  · refine ⟨machine_no (head_word (by decide) _ _ _), breaker_no ?_⟩
    have := head_tup "breaker" 0 0 (by omega) (by omega) [.tup [.int 0, .tup [.int 0]]]
    exact this
theorem wrong_list (hs : Sz ins outs) (hM : GM ins outs S) (hB : GB ins outs B) :
    lstE (consA (cE .non) (consA (tupE (consA (cE (.str "machine")) (consA (bin2 ixD (varE 1) (cE (.int 1))) (consA (bin2 ixD (varE 1) (cE (.int 2))) (consA (tupE nilA) nilA))))) (consA (bin2 addD (tupE (consA (cE (.str "machines")) nilA)) (slE (varE 1) (someP (cE (.int 1))) noP)) (consA (bin2 addD (slE (varE 1) noP (someP (cE (.int 3)))) (tupE (consA (callE listL (consA (varE 3) nilA)) nilA))) (consA (bin2 addD (slE (varE 1) noP (someP (cE (.int 3)))) (tupE (consA (bin2 addD (varE 3) (tupE (consA (tupE nilA) nilA))) nilA))) (consA (bin2 addD (slE (varE 1) noP (someP (cE (.int 3)))) (tupE (consA (bin2 addD (tupE (consA (bin2 mul2D (tupE (consA (tupE (consA (cE (.int 0)) (consA (callE lenL (consA (varE 3) nilA)) nilA))) nilA)) (bin2 shlD (cE (.int 1)) (bin2 ixD (varE 1) (cE (.int 1))))) nilA)) (slE (varE 3) (someP (cE (.int 1))) noP)) nilA))) (consA (tupE (consA (cE (.str "machine")) (consA (cE (.int 3)) (consA (cE (.int 2)) (consA (varE 3) nilA))))) (consA (bin2 addD (slE (varE 1) noP (someP (cE (.int 3)))) (tupE (consA (bin2 addD (tupE (consA (bin2 mul2D (tupE (consA (tupE (consA (bin2 shlD (cE (.int 1)) (bin2 ixD (varE 1) (cE (.int 2)))) (consA (cE (.int 0)) nilA))) nilA)) (bin2 shlD (cE (.int 1)) (bin2 ixD (varE 1) (cE (.int 1))))) nilA)) (slE (varE 3) (someP (cE (.int 1))) noP)) nilA))) (consA (tupE (consA (cE (.str "machine")) (consA (cE (.bl true)) (consA (bin2 ixD (varE 1) (cE (.int 2))) (consA (varE 3) nilA))))) (consA (bin2 addD (slE (varE 2) noP (someP (cE (.int 3)))) (tupE (consA (bin2 addD (bin2 ixD (varE 2) (cE (.int 3))) (tupE (consA (tupE (consA (bin2 shlD (cE (.int 1)) (bin2 ixD (varE 2) (cE (.int 1)))) (consA (bin2 ixD (bin2 ixD (bin2 ixD (varE 2) (cE (.int 3))) (cE (.int 0))) (cE (.int 1))) nilA))) nilA))) nilA))) (consA (tupE (consA (cE (.str "breaker")) (consA (cE (.int 0)) (consA (cE (.int 0)) (consA (tupE (consA (tupE (consA (cE (.int 0)) (consA (tupE (consA (cE (.int 0)) nilA)) nilA))) nilA)) nilA))))) nilA)))))))))))
      [some .bag, some (encM ins outs S), some (encB ins outs B), some (.tup (S.map encR))] = M.ret (.lst (wl ins outs S B)) := by
  have i2 := hs.i
  have o2 := hs.o
  have pi := pw_pos ins
  have pi4 := pw_le hs.i
  have l4 := hM.l4
  have b4 := hB.l4
  have h1 := shl_one ins (by omega)
  have h2 := shl_one outs (by omega)
  have hp3 : slE (varE 1) noP (someP (cE (.int 3))) [some .bag, some (encM ins outs S), some (encB ins outs B), some (.tup (S.map encR))] = M.ret (.tup [.str "machine", .int ins, .int outs]) := rfl
  have hq3 : slE (varE 2) noP (someP (cE (.int 3))) [some .bag, some (encM ins outs S), some (encB ins outs B), some (.tup (S.map encR))] = M.ret (.tup [.str "breaker", .int ins, .int outs]) := rfl
  have htail : slE (varE 3) (someP (cE (.int 1))) noP [some .bag, some (encM ins outs S), some (encB ins outs B), some (.tup (S.map encR))] = M.ret (.tup (S.tail.map encR)) := by
    simp [List.map_tail]
  have hmul : ∀ {x : EX} {p : Nat × Nat}, x [some .bag, some (encM ins outs S), some (encB ins outs B), some (.tup (S.map encR))] = M.ret (encP p) → bin2 mul2D (tupE (consA x nilA)) (bin2 shlD (cE (.int 1)) (bin2 ixD (varE 1) (cE (.int 1)))) [some .bag, some (encM ins outs S), some (encB ins outs B), some (.tup (S.map encR))] = M.ret (encR (badR ins p)) := fun {x p} hx => by
    refine bin2_of (tup1_of hx) (bin2_of (x := .int 1) (y := .int ins) rfl rfl h1) ?_
    rw [mul2_tup [encP p] (2 ^ ins) (by simp) (by omega) (by simp), flat_rep]
    unfold encR badR
    rw [List.map_replicate]
  have hrow : ∀ {x : EX} {p : Nat × Nat}, x [some .bag, some (encM ins outs S), some (encB ins outs B), some (.tup (S.map encR))] = M.ret (encP p) → bin2 addD (slE (varE 1) noP (someP (cE (.int 3)))) (tupE (consA (bin2 addD (tupE (consA (bin2 mul2D (tupE (consA x nilA)) (bin2 shlD (cE (.int 1)) (bin2 ixD (varE 1) (cE (.int 1))))) nilA)) (slE (varE 3) (someP (cE (.int 1))) noP)) nilA)) [some .bag, some (encM ins outs S), some (encB ins outs B), some (.tup (S.map encR))] = M.ret (encM ins outs (badR ins p :: S.tail)) := fun {x p} hx => by
    refine bin2_of hp3 (tup1_of (bin2_of (tup1_of (hmul hx)) htail (addT ?_))) (addT ?_)
    · simp; unfold line; omega
    · simp; decide
  have hw4 : bin2 addD (slE (varE 1) noP (someP (cE (.int 3)))) (tupE (consA (bin2 addD (varE 3) (tupE (consA (tupE nilA) nilA))) nilA)) [some .bag, some (encM ins outs S), some (encB ins outs B), some (.tup (S.map encR))] = M.ret (encM ins outs (S ++ [[]])) := by
    have ha : addD (.tup (S.map encR)) (.tup [.tup []]) = some (.tup ((S ++ [[]]).map encR)) := by
      rw [addT (by rw [List.length_map, List.length_singleton]; unfold line; omega), List.map_append]
      rfl
    refine bin2_of hp3 (tup1_of (bin2_of (x := .tup (S.map encR)) (y := .tup [.tup []]) rfl rfl ha)) ?_
    rfl
  rw [lstE_eq, consA_of (x := .non) rfl (consA_of (x := .tup [.str "machine", .int ins, .int outs, .tup []]) rfl (consA_of (x := .tup [.str "machines", .int ins, .int outs, .tup (S.map encR)]) rfl (consA_of (x := .tup [.str "machine", .int ins, .int outs, .lst (S.map encR)]) rfl (consA_of (x := encM ins outs (S ++ [[]])) hw4 (consA_of (x := encM ins outs (badR ins (0, S.length) :: S.tail)) (hrow (tup2_of rfl (call1_of (x := .tup (S.map encR)) rfl (by simp)))) (consA_of (x := .tup [.str "machine", .int 3, .int 2, .tup (S.map encR)]) rfl (consA_of (x := encM ins outs (badR ins (2 ^ outs, 0) :: S.tail)) (hrow (tup2_of (bin2_of (x := .int 1) (y := .int outs) rfl rfl h2) rfl)) (consA_of (x := .tup [.str "machine", .bl true, .int outs, .tup (S.map encR)]) rfl (consA_of (x := encB ins outs (B ++ [(2 ^ ins, ((B[0]?).getD (0, [])).2)])) ?_ (consA_of (x := .tup [.str "breaker", .int 0, .int 0, .tup [.tup [.int 0, .tup [.int 0]]]]) rfl rfl)))))))))), bnd_ret]
  · rfl
  · have e := List.getElem?_eq_getElem (show 0 < B.length by have := hB.l1; omega)
    rw [e, Option.getD_some]
    have e0 : atI (B.map encBR) 0 = some (encBR (B[0]'(by have := hB.l1; omega))) := by
      have := VC.atI_nat (B.map encBR) 0
      rw [List.getElem?_map, e] at this
      exact this
    generalize B[0]'(by have := hB.l1; omega) = b0 at e0
    have hx : bin2 ixD (bin2 ixD (bin2 ixD (varE 2) (cE (.int 3))) (cE (.int 0))) (cE (.int 1)) [some .bag, some (encM ins outs S), some (encB ins outs B), some (.tup (S.map encR))] = M.ret (.tup (b0.2.map nI)) := bin2_of (x := encBR b0) (y := .int 1) (bin2_of (x := .tup (B.map encBR)) (y := .int 0) rfl rfl e0) rfl rfl
    refine bin2_of hq3 (tup1_of (bin2_of (x := .tup (B.map encBR)) (y := .tup [encBR (2 ^ ins, b0.2)]) rfl (tup1_of (tup2_of (bin2_of (x := .int 1) (y := .int ins) rfl rfl h1) hx)) (addT (by simp; unfold line; omega)))) ?_
    rw [addT (by simp; decide)]
    unfold encB
    rw [List.map_append]
    rfl
theorem wrong_eq (hs : Sz ins outs) (hM : GM ins outs S) (hB : GB ins outs B) (g : Bag) : ∃ w g', r__law_wrong [.bag, encM ins outs S, encB ins outs B] g = .ok w g' ∧ r_is_machine [w] = M.ret (.bl false) ∧ r_is_breaker [w] = M.ret (.bl false) := by
  obtain ⟨v, g', a1, a2⟩ := draw_e (a := varE 0) (b := cE (.int 11)) (env := [some .bag, some (encM ins outs S), some (encB ins outs B), some (.tup (S.map encR))]) (many := 11) rfl rfl (by omega) g
  have hv : v < (wl ins outs S B).length := a2
  have e := List.getElem?_eq_getElem hv
  obtain ⟨h1, h2⟩ := wl_bad hs hM hB _ (List.getElem_mem hv)
  refine ⟨(wl ins outs S B)[v], g', fnD_ok (env := [some .bag, some (encM ins outs S), some (encB ins outs B), none]) rfl ?_, h1, h2⟩
  unfold s__law_wrong
  have f1 : asgH [] 3 (bin2 ixD (varE 1) (cE (.int 3))) [some .bag, some (encM ins outs S), some (encB ins outs B), none] = M.ret (.nx [some .bag, some (encM ins outs S), some (encB ins outs B), some (.tup (S.map encR))]) := asgH_of rfl
  rw [seqS_of f1]
  refine retS_at (bin2_at (x := .lst (wl ins outs S B)) (y := .int v) (g' := g) (by rw [wrong_list hs hM hB]; rfl) a1 ?_)
  rw [ixD_lst, VC.atI_nat, e]
/-! ### the lasso follows -/
theorem step_m (hM : GM ins outs S) (hB : GB ins outs B) (n : Nat) : Dev.step ins (.m S) (sq ins S B n).1 (sl ins S B n) = some (sq ins S B (n + 1)).1 := by
  obtain ⟨a1, a2⟩ := sq_in hM hB n
  obtain ⟨b, r, q, t, e1, e2, e3, e4, e5, g1, q1, q2, ht⟩ := mt_at hM hB a1 a2
  have hl : sl ins S B n = b.1 + q.1 * 2 ^ ins := by unfold sl; rw [e5]
  have hq : (sq ins S B (n + 1)).1 = q.2 := by show (mt ins S B (sq ins S B n)).2.1 = _; rw [e5]
  obtain ⟨m1, m2⟩ := (div_mod_iff (l := b.1 + q.1 * 2 ^ ins) g1).mp rfl
  rw [hl, hq]
  show stepM _ _ _ _ = _
  unfold stepM
  rw [e2, Option.bind_some, ← m1, e3, Option.bind_some, if_pos m2]
theorem step_b (hM : GM ins outs S) (hB : GB ins outs B) (n : Nat) : Dev.step ins (.b B) (sq ins S B n).2 (sl ins S B n) = some (sq ins S B (n + 1)).2 := by
  obtain ⟨a1, a2⟩ := sq_in hM hB n
  obtain ⟨b, r, q, t, e1, e2, e3, e4, e5, g1, q1, q2, ht⟩ := mt_at hM hB a1 a2
  have hl : sl ins S B n = b.1 + q.1 * 2 ^ ins := by unfold sl; rw [e5]
  have hq : (sq ins S B (n + 1)).2 = t := by show (mt ins S B (sq ins S B n)).2.2 = _; rw [e5]
  obtain ⟨m1, m2⟩ := (div_mod_iff (l := b.1 + q.1 * 2 ^ ins) g1).mp rfl
  rw [hl, hq]
  show stepB _ _ _ _ = _
  unfold stepB
  rw [e1, Option.bind_some, if_pos m1, ← m2, e4]
theorem sl_lt (hM : GM ins outs S) (hB : GB ins outs B) (n : Nat) : sl ins S B n < 2 ^ (ins + outs) := by
  obtain ⟨a1, a2⟩ := sq_in hM hB n
  obtain ⟨b, r, q, t, e1, e2, e3, e4, e5, g1, q1, q2, ht⟩ := mt_at hM hB a1 a2
  unfold sl
  rw [e5, Nat.pow_add]
  calc b.1 + q.1 * 2 ^ ins < 2 ^ ins + q.1 * 2 ^ ins := by omega
    _ = 2 ^ ins * (q.1 + 1) := by rw [Nat.mul_add, Nat.mul_comm q.1, Nat.mul_one, Nat.add_comm]
    _ ≤ 2 ^ ins * 2 ^ outs := Nat.mul_le_mul_left _ q1
theorem take_sl {n j : Nat} (h : j ≤ n) : ((List.range n).map (sl ins S B)).take j = (List.range j).map (sl ins S B) := by
  rw [← List.map_take, List.take_range, Nat.min_eq_left h]
theorem drop_sl {n j : Nat} (h : j ≤ n) : ((List.range n).map (sl ins S B)).drop j = (List.range (n - j)).map fun i => sl ins S B (j + i) := by
  have : List.range n = List.range j ++ (List.range (n - j)).map (j + ·) := by
    rw [← List.range_add]
    congr 1
    omega
  rw [this, List.map_append, List.drop_append_of_le_length (by simp), List.drop_of_length_le (by simp), List.nil_append, List.map_map]
  rfl
/-- both follow it for ever -/
theorem lasso_goes {d : Dev} {c : Nat → Nat} (hc : ∀ n, d.step ins (c n) (sl ins S B n) = some (c (n + 1))) (h0 : c 0 = 0) {n j : Nat} (hj : j ≤ n) (he : c n = c j) : (d.go ins (some 0) (((List.range n).map (sl ins S B)).take j ++ (List.replicate 24 (((List.range n).map (sl ins S B)).drop j)).flatten)).isSome = true := by
  rw [Dev.go_append, take_sl hj, drop_sl hj]
  have g1 := go_range (d := d) (f := sl ins S B) hc j 0
  simp only [Nat.zero_add] at g1
  rw [h0] at g1
  rw [g1, itp_flat]
  have g2 := go_range (d := d) (f := sl ins S B) hc (n - j) j
  rw [show j + (n - j) = n by omega, he] at g2
  have : ∀ k, itp d ins ((List.range (n - j)).map fun i => sl ins S B (j + i)) (some (c j)) k = some (c j) := fun k => by
    induction k with
    | zero => rfl
    | succ k ih =>
      show d.go ins (itp d ins _ _ k) _ = _
      rw [ih]
      exact g2
  rw [this]
  rfl
end
end K66

/-! K66v: a case. -/
namespace K66
open PySem PySem.Spec L2 RZ VC
open PyProof.Rows hiding St

theorem neVD_bb (a b : Bool) : neVD (.bl a) (.bl b) = some (.bl (!decide (a = b))) := by cases a <;> cases b <;> rfl
theorem slE_to_at {a h : EX} {env : Slots} {g g' : Bag} {d z : D} {v : Int} (h1 : a env = M.ret d) (h2 : h env g = .ok (.int v) g') (h3 : slD d none (some v) = some z) : slE a noP (someP h) env g = .ok z g' := by
  rw [slE_eq, h1, bnd_ret, noP_eq, bnd_ret, someP_eq, bnd_assoc, bnd_okM h2]
  simp only [bnd_ret]
  rw [h3]
  rfl
theorem word_at {ρ : FX} {b : AX} {env : Slots} {g g' : Bag} {x y d : D} (h1 : b env = M.ret [x, y]) (h2 : catchW (ρ [x, y]) g = .ok d g') : wordE ρ b env g = .ok d g' := by
  rw [wordE_eq, h1, bnd_ret]
  exact h2
theorem catch_0 {m : M D} {g g' : Bag} {p : D} (h : m g = .exn 0 p g') : catchW m g = .ok p g' := by
  unfold catchW
  rw [h]
  rfl
theorem catch_1 {m : M D} {g g' : Bag} {p : D} (h : m g = .exn 1 p g') : catchW m g = .ok (.str "word") g' := by
  unfold catchW
  rw [h]
  rfl
theorem testF {a b : EX} {q : D → D → Option D} {env : Slots} {g g1 g2 : Bag} {x y : D} (h1 : a env g = .ok x g1) (h2 : b env g1 = .ok y g2) (h3 : q x y = some (.bl false)) : valT (bin2 q a b) env g = .ok false g2 := valT_at (bin2_at h1 h2 h3)
theorem ifF {τ : TX} {env : Slots} {g g' : Bag} {a : SX} (h : τ env g = .ok false g') : ifS τ a nxS env g = .ok (.nx env) g' := by
  rw [ifS_at h]
  rfl
theorem orFF {τ υ : TX} {env : Slots} {g g' g2 : Bag} (h : τ env g = .ok false g') (h2 : υ env g' = .ok false g2) : orT τ υ env g = .ok false g2 := by
  rw [orT_f h, h2]
theorem unpH_at {O : List Nat} {bd : BX} {a : EX} {env : Slots} {g g' : Bag} {d : D} {l : List (Nat × D)} (h : a (hide O env) g = .ok d g') (h2 : bd d = some l) (h3 : outO O l = true) : unpH O bd a env g = .ok (.nx (setsE env l)) g' := by
  rw [unpH_eq, bnd_okM h, h2, ofO_someM, bnd_ret, if_pos h3]
  rfl
section
variable {ins outs : Nat} {S : List MRow} {B : List BRow}
/-- the slots of a case from the lasso on -/
def cE_ (ins outs : Nat) (S : List MRow) (B : List BRow) (gs ws hd lp : List Nat) (x5 x9 x10 x11 : Option D) : Slots :=
  [some .bag, some (.int ins), some (.int outs), some (encM ins outs S), some (encB ins outs B), x5, some (.tup (gs.map nI)), some (.tup (ws.map nI)), some (encL hd lp), x9, x10, x11, none, none, none]
theorem pick_draw (hs : Sz ins outs) {gs ws hd lp : List Nat} (x5 x9 x10 x11 : Option D) (g : Bag) : ∃ (zs : List Nat) (g' : Bag), e_law_case3 (cE_ ins outs S B gs ws hd lp x5 x9 x10 x11) g = .ok (.lst (zs.map nI)) g' ∧ zs.length ≤ 2 ∧ ∀ z ∈ zs, z < 2 ^ (ins + outs) := by
  have s3 := hs.s3
  have h2 := shl_one (ins + outs) (by omega)
  push_cast at h2
  have hp : 1 ≤ 2 ^ (ins + outs) ∧ 2 ^ (ins + outs) ≤ 8 := ⟨pw_pos _, by
    have : ins + outs = 1 ∨ ins + outs = 2 ∨ ins + outs = 3 := by have := hs.s1; omega
    rcases this with e | e | e <;> rw [e] <;> decide⟩
  obtain ⟨v, g1, a1, a2⟩ := draw_e (a := varE 0) (b := cE (.int 3)) (env := cE_ ins outs S B gs ws hd lp x5 x9 x10 x11) (many := 3) rfl rfl (by omega) g
  obtain ⟨xs, g', e1, e2, e3⟩ := lc_draw (ι := rng1I (consA (fnE r__law_draw (consA (varE 0) (consA (cE (.int 3)) nilA)) p__law_draw.length) nilA)) (bd := nameB 14) (ρ := fnE r__law_draw (consA (varE 0) (consA (bin2 shlD (cE (.int 1)) (bin2 addD (varE 1) (varE 2))) nilA)) p__law_draw.length) (vs := [14]) (env := cE_ ins outs S B gs ws hd lp x5 x9 x10 x11) (g := g) (g' := g1) (fun v => ∃ p : Nat, v = nI p ∧ p < 2 ^ (ins + outs)) (rngD 0 v) (rng1_at a1 (by omega)) (by rw [rngD_length]; unfold line; omega) fun d hdd => by
      refine ⟨[(14, d)], rfl, fun g => ?_⟩
      have hb : bin2 shlD (cE (.int 1)) (bin2 addD (varE 1) (varE 2)) (setsE (wipeE (cE_ ins outs S B gs ws hd lp x5 x9 x10 x11) [14]) [(14, d)]) = M.ret (.int ((2 ^ (ins + outs) : Nat) : Int)) := by
        refine bin2_of (x := .int 1) (y := .int ((ins : Int) + outs)) rfl (bin2_of (x := .int ins) (y := .int outs) rfl rfl rfl) ?_
        rw [h2]
        push_cast
        rfl
      obtain ⟨u, g1, b1, b2⟩ := draw_e (a := varE 0) (b := bin2 shlD (cE (.int 1)) (bin2 addD (varE 1) (varE 2))) (env := setsE (wipeE (cE_ ins outs S B gs ws hd lp x5 x9 x10 x11) [14]) [(14, d)]) (many := 2 ^ (ins + outs)) rfl hb (by omega) g
      exact ⟨nI u, g1, b1, u, rfl, b2⟩
  obtain ⟨zs, rfl, hz⟩ := list_of e3
  refine ⟨zs, g', e1, ?_, hz⟩
  rw [List.length_map, rngD_length] at e2
  omega
theorem flat_map (n : Nat) (lp : List Nat) : (List.replicate n (lp.map nI)).flatten = ((List.replicate n lp).flatten).map nI := by
  induction n with
  | zero => rfl
  | succ n ih => rw [List.replicate_succ, List.replicate_succ, List.flatten_cons, List.flatten_cons, List.map_append, ih]
theorem mem_flat {n : Nat} {lp : List Nat} {x : Nat} (h : x ∈ (List.replicate n lp).flatten) : x ∈ lp := by
  obtain ⟨l, hl, hx⟩ := List.mem_flatten.mp h
  rw [(List.mem_replicate.mp hl).2] at hx
  exact hx
theorem len_flat (n : Nat) (lp : List Nat) : (List.replicate n lp).flatten.length = n * lp.length := by
  induction n with
  | zero => simp
  | succ n ih => rw [List.replicate_succ, List.flatten_cons, List.length_append, ih, Nat.succ_mul, Nat.add_comm]
theorem try_turn (hs : Sz ins outs) {d : Dev} (h : d.Ok ins outs) (h0 : 0 < d.len) (h4 : d.len ≤ 4) {gs ws hd lp : List Nat} (hws : ws.length ≤ 6) (hwl : ∀ l ∈ ws, l < 2 ^ (ins + outs)) (hlp : lp ≠ []) (hll : lp.length ≤ 16) (hlpl : ∀ l ∈ lp, l < 2 ^ (ins + outs)) (x5 x10 x11 : Option D) (g : Bag) : ∃ y10 y11 g',
    b_law_case4 (cE_ ins outs S B gs ws hd lp x5 (some (d.enc ins outs)) x10 x11) g = .ok (.nx (cE_ ins outs S B gs ws hd lp x5 (some (d.enc ins outs)) y10 y11)) g' := by
  obtain ⟨v, g1, a1, a2⟩ := draw_e (a := varE 0) (b := bin2 addD (callE lenL (consA (varE 7) nilA)) (cE (.int 1))) (env := cE_ ins outs S B gs ws hd lp x5 (some (d.enc ins outs)) x10 x11) (many := ws.length + 1) rfl (bin2_of (x := .int (ws.length : Int)) (y := .int 1) (call1_of (x := .tup (ws.map nI)) rfl (by simp)) rfl rfl) (by omega) g
  obtain ⟨zs, g2, b1, b2, b3⟩ := pick_draw (S := S) (B := B) hs (gs := gs) (ws := ws) (hd := hd) (lp := lp) x5 (some (d.enc ins outs)) x10 x11 g1
  have hcut : slD (.tup (ws.map nI)) none (some (v : Int)) = some (.tup ((ws.take v).map nI)) := by
    show some (D.tup (VC.cutD _ _ _)) = _
    rw [cut_to _ _ (by rw [List.length_map]; omega), List.map_take]
  have hol : (ws.take v ++ zs).length ≤ 8 := by
    rw [List.length_append, List.length_take]
    omega
  have how : ∀ l ∈ ws.take v ++ zs, l < 2 ^ (ins + outs) := fun l hl => by
    rcases List.mem_append.mp hl with hl | hl
    · exact hwl l (List.mem_of_mem_take hl)
    · exact b3 l hl
  have f1 : asgH [] 10 (bin2 addD (slE (varE 7) noP (someP (fnE r__law_draw (consA (varE 0) (consA (bin2 addD (callE lenL (consA (varE 7) nilA)) (cE (.int 1))) nilA)) p__law_draw.length))) (callE tupL (consA e_law_case3 nilA))) (cE_ ins outs S B gs ws hd lp x5 (some (d.enc ins outs)) x10 x11) g = .ok (.nx (cE_ ins outs S B gs ws hd lp x5 (some (d.enc ins outs)) (some (.tup ((ws.take v ++ zs).map nI))) x11)) g2 := by
    refine (asgH_at (bin2_at (slE_to_at (d := .tup (ws.map nI)) rfl a1 hcut) (call1_at b1 rfl) (z := .tup ((ws.take v ++ zs).map nI)) ?_)).trans rfl
    rw [addT (by rw [List.length_map, List.length_map, ← List.length_append]; unfold line; omega), List.map_append]
  have f2 : asgH [] 11 (tupE (consA (cE (.str "lasso")) (consA (varE 10) (consA (bin2 ixD (varE 8) (cE (.int 2))) nilA)))) (cE_ ins outs S B gs ws hd lp x5 (some (d.enc ins outs)) (some (.tup ((ws.take v ++ zs).map nI))) x11) = M.ret (.nx (cE_ ins outs S B gs ws hd lp x5 (some (d.enc ins outs)) (some (.tup ((ws.take v ++ zs).map nI))) (some (encL (ws.take v ++ zs) lp)))) := asgH_of rfl
  refine ⟨some (.tup ((ws.take v ++ zs).map nI)), some (encL (ws.take v ++ zs) lp), g2, ?_⟩
  unfold b_law_case4
  rw [seqS_ok f1, seqS_of f2]
  generalize ws.take v ++ zs = os at hol how
  have k1 := follows_eq hs h h0 os (by unfold line; omega) how
  have k2 := law_follows_eq hs h h0 os how
  have k3 := follows_lasso_eq hs h h0 h4 os lp (by unfold line; omega) (by unfold line; omega) how hlpl hlp g2
  have k4 := law_follows_eq hs h h0 (os ++ (List.replicate 24 lp).flatten) fun l hl => by
    rcases List.mem_append.mp hl with hl | hl
    · exact how l hl
    · exact hlpl l (mem_flat hl)
  refine ifF (orFF (testF (x := .bl (d.go ins (some 0) os).isSome) (y := .bl (d.go ins (some 0) os).isSome) (fnE_at (ds := [d.enc ins outs, .tup (os.map nI)]) rfl rfl (by rw [k1]; rfl)) (fnE_at (ds := [d.enc ins outs, .tup (os.map nI)]) rfl rfl (by rw [k2]; rfl)) (by rw [neVD_bb]; simp)) (testF (x := .bl (d.go ins (some 0) (os ++ (List.replicate 24 lp).flatten)).isSome) (y := .bl (d.go ins (some 0) (os ++ (List.replicate 24 lp).flatten)).isSome) (fnE_at (ds := [d.enc ins outs, encL os lp]) rfl rfl k3) (fnE_at (ds := [d.enc ins outs, .tup ((os ++ (List.replicate 24 lp).flatten).map nI)]) ?_ rfl (by rw [k4]; rfl)) (by rw [neVD_bb]; simp)))
  refine args2 rfl (bin2_of (x := .tup (os.map nI)) (y := .tup (((List.replicate 24 lp).flatten).map nI)) rfl (bin2_of (x := .tup (lp.map nI)) (y := .int 24) rfl rfl ?_) ?_)
  · rw [← flat_map]
    exact mul2_tup _ 24 (fun z => hlp (List.map_eq_nil_iff.mp z)) (by omega) (by rw [List.length_map]; omega)
  · rw [addT (by rw [List.length_map, List.length_map, len_flat]; unfold line; omega), List.map_append]
theorem dev_turn (hs : Sz ins outs) {d : Dev} (h : d.Ok ins outs) (h0 : 0 < d.len) (h4 : d.len ≤ 4) {gs ws hd lp : List Nat} (hws : ws.length ≤ 6) (hwl : ∀ l ∈ ws, l < 2 ^ (ins + outs)) (hhl : hd.length ≤ 16) (hhd : ∀ l ∈ hd, l < 2 ^ (ins + outs)) (hlp : lp ≠ []) (hll : lp.length ≤ 16) (hlpl : ∀ l ∈ lp, l < 2 ^ (ins + outs)) (hgo : (d.go ins (some 0) (hd ++ (List.replicate 24 lp).flatten)).isSome = true) (x5 x10 x11 : Option D) (g : Bag) : ∃ y5 y10 y11 g',
    b_law_case5 (cE_ ins outs S B gs ws hd lp x5 (some (d.enc ins outs)) x10 x11) g = .ok (.nx (cE_ ins outs S B gs ws hd lp y5 (some (d.enc ins outs)) y10 y11)) g' := by
  have k3 := follows_lasso_eq hs h h0 h4 hd lp (by unfold line; omega) (by unfold line; omega) hhd hlpl hlp g
  rw [hgo] at k3
  obtain ⟨e, g', h1, y5, y10, y11, rfl⟩ := for_run (O := []) (bd := nameB 5) (ρ := b_law_case4) (fun _ e _ => ∃ y5 y10 y11, e = cE_ ins outs S B gs ws hd lp y5 (some (d.enc ins outs)) y10 y11) (rngD 0 5) (cE_ ins outs S B gs ws hd lp x5 (some (d.enc ins outs)) x10 x11) g ⟨x5, x10, x11, rfl⟩ (by
    rintro i dd e g2 hdd ⟨y5, y10, y11, rfl⟩
    obtain ⟨z10, z11, g3, hz⟩ := try_turn (S := S) (B := B) hs h h0 h4 (gs := gs) (hd := hd) hws hwl hlp hll hlpl (some dd) y10 y11 g2
    exact ⟨[(5, dd)], rfl, rfl, _, g3, .inl hz, some dd, z10, z11, rfl⟩)
  refine ⟨y5, y10, y11, g', ?_⟩
  unfold b_law_case5
  refine (seqS_ok (ifF (testF (x := .bl true) (y := .bl true) (fnE_at (ds := [d.enc ins outs, encL hd lp]) rfl rfl k3) rfl rfl))).trans ?_
  rw [forH_of (rng1_nat (k := 5) rfl (by omega))]
  exact h1
theorem mask_eq (hs : Sz ins outs) (ws : List Nat) (hl : ws.length ≤ 6) (x5 x6 x8 x9 x10 x11 : Option D) (m b : Option D) : e_law_case2 [some .bag, some (.int ins), some (.int outs), m, b, x5, x6, some (.tup (ws.map nI)), x8, x9, x10, x11, none, none, none] = M.ret (.lst ((ws.map (· % 2 ^ ins)).map nI)) := by
  have i2 := hs.i
  have h1 := shl_one ins (by omega)
  unfold e_law_case2
  rw [lc_runA nI (fun l => nI (l % 2 ^ ins)) ws (by simp) (by unfold line; omega) fun l _ => ⟨[(13, nI l)], rfl, by
    refine bin2_of (x := nI l) (y := .int (((2 ^ ins : Nat) : Int) - 1)) rfl (bin2_of (x := .int ((2 ^ ins : Nat) : Int)) (y := .int 1) (bin2_of (x := .int 1) (y := .int ins) rfl rfl h1) rfl rfl) ?_
    exact band_nat l ins⟩, List.map_map]
  rfl
theorem given_draw (hs : Sz ins outs) (m b : D) (g : Bag) : ∃ (gs : List Nat) (g' : Bag), e_law_case1 [some .bag, some (.int ins), some (.int outs), some m, some b, none, none, none, none, none, none, none, none, none, none] g = .ok (.lst (gs.map nI)) g' ∧ gs.length ≤ 6 ∧ ∀ x ∈ gs, x < 2 ^ ins := by
  have i2 := hs.i
  have hp := pw_pos ins
  have hp4 := pw_le hs.i
  have h2 := shl_one ins (by omega)
  obtain ⟨v, g1, a1, a2⟩ := draw_e (a := varE 0) (b := cE (.int 7)) (env := [some .bag, some (.int ins), some (.int outs), some m, some b, none, none, none, none, none, none, none, none, none, none]) (many := 7) rfl rfl (by omega) g
  obtain ⟨xs, g', e1, e2, e3⟩ := lc_draw (ι := rng1I (consA (fnE r__law_draw (consA (varE 0) (consA (cE (.int 7)) nilA)) p__law_draw.length) nilA)) (bd := nameB 5) (ρ := fnE r__law_draw (consA (varE 0) (consA (bin2 shlD (cE (.int 1)) (varE 1)) nilA)) p__law_draw.length) (vs := [5]) (env := [some .bag, some (.int ins), some (.int outs), some m, some b, none, none, none, none, none, none, none, none, none, none]) (g := g) (g' := g1) (fun v => ∃ p : Nat, v = nI p ∧ p < 2 ^ ins) (rngD 0 v) (rng1_at a1 (by omega)) (by rw [rngD_length]; unfold line; omega) fun d hdd => by
      refine ⟨[(5, d)], rfl, fun g => ?_⟩
      obtain ⟨u, g1, b1, b2⟩ := draw_e (a := varE 0) (b := bin2 shlD (cE (.int 1)) (varE 1)) (env := [some .bag, some (.int ins), some (.int outs), some m, some b, some d, none, none, none, none, none, none, none, none, none]) (many := 2 ^ ins) rfl (bin2_of (x := .int 1) (y := .int ins) rfl rfl h2) (by omega) g
      exact ⟨nI u, g1, b1, u, rfl, b2⟩
  obtain ⟨zs, rfl, hz⟩ := list_of e3
  refine ⟨zs, g', e1, ?_, hz⟩
  rw [List.length_map, rngD_length] at e2
  omega
theorem pls_encR (r : MRow) : pls (r.map encP) = true := pls_encP r
theorem pl_encM (ins outs : Nat) (S : List MRow) : pl (encM ins outs S) = true := by
  have : pls (S.map encR) = true := pls_of fun a h => by
    obtain ⟨r, _, rfl⟩ := List.mem_map.mp h
    show pls (r.map encP) = true
    exact pls_encP r
  simp [encM, pl, pls, this]
theorem depth_encM (ins outs : Nat) (S : List MRow) : (toPy (encM ins outs S)).depth ≤ 60 := by
  have h : ∀ S : List MRow, PyData.depthAll (toPys (S.map encR)) ≤ 2 := fun S => by
    induction S with
    | nil => exact Nat.zero_le _
    | cons r S ih =>
      rw [List.map_cons]
      show max (toPy (encR r)).depth (PyData.depthAll (toPys (S.map encR))) ≤ 2
      refine Nat.max_le.mpr ⟨?_, ih⟩
      show PyData.depthAll (toPys (r.map encP)) + 1 ≤ 2
      have := (canLay_encP r).2
      omega
  have := h S
  show max _ (max _ (max _ (max (PyData.depthAll (toPys (S.map encR)) + 1) 0))) + 1 ≤ 60
  have e0 : ∀ s : Str, (toPy (.str s)).depth = 0 := fun _ => rfl
  have e1 : ∀ i : Int, (toPy (.int i)).depth = 0 := fun _ => rfl
  rw [e0, e1, e1]
  omega
theorem pl_encL (hd lp : List Nat) : pl (encL hd lp) = true := by simp [encL, pl, pls, pls_nI]
theorem depth_encL (hd lp : List Nat) : (toPy (encL hd lp)).depth ≤ 60 := by
  show max _ (max (PyData.depthAll (toPys (hd.map nI)) + 1) (max (PyData.depthAll (toPys (lp.map nI)) + 1) 0)) + 1 ≤ 60
  have e0 : ∀ s : Str, (toPy (.str s)).depth = 0 := fun _ => rfl
  rw [depth_nI, depth_nI, e0]
  decide
theorem size_draw (g : Bag) : ∃ (ins outs : Nat) (g' : Bag), unpH [] (tupB 2 (consB (nameB 1) (consB (nameB 2) nilB))) (bin2 ixD (lstE (consA (tupE (consA (cE (.int 1)) (consA (cE (.int 1)) nilA))) (consA (tupE (consA (cE (.int 2)) (consA (cE (.int 1)) nilA))) (consA (tupE (consA (cE (.int 0)) (consA (cE (.int 2)) nilA))) (consA (tupE (consA (cE (.int 1)) (consA (cE (.int 2)) nilA))) (consA (tupE (consA (cE (.int 2)) (consA (cE (.int 0)) nilA))) nilA)))))) (fnE r__law_draw (consA (varE 0) (consA (cE (.int 5)) nilA)) p__law_draw.length)) [some .bag, none, none, none, none, none, none, none, none, none, none, none, none, none, none] g = .ok (.nx [some .bag, some (.int ins), some (.int outs), none, none, none, none, none, none, none, none, none, none, none, none]) g' ∧ Sz ins outs := by
  obtain ⟨v, g', a1, a2⟩ := draw_e (a := varE 0) (b := cE (.int 5)) (env := [some .bag, none, none, none, none, none, none, none, none, none, none, none, none, none, none]) (many := 5) rfl rfl (by omega) g
  have hl : ∀ i o : Int, atI [D.tup [.int 1, .int 1], .tup [.int 2, .int 1], .tup [.int 0, .int 2], .tup [.int 1, .int 2], .tup [.int 2, .int 0]] (v : Int) = some (.tup [.int i, .int o]) → unpH [] (tupB 2 (consB (nameB 1) (consB (nameB 2) nilB))) (bin2 ixD (lstE (consA (tupE (consA (cE (.int 1)) (consA (cE (.int 1)) nilA))) (consA (tupE (consA (cE (.int 2)) (consA (cE (.int 1)) nilA))) (consA (tupE (consA (cE (.int 0)) (consA (cE (.int 2)) nilA))) (consA (tupE (consA (cE (.int 1)) (consA (cE (.int 2)) nilA))) (consA (tupE (consA (cE (.int 2)) (consA (cE (.int 0)) nilA))) nilA)))))) (fnE r__law_draw (consA (varE 0) (consA (cE (.int 5)) nilA)) p__law_draw.length)) [some .bag, none, none, none, none, none, none, none, none, none, none, none, none, none, none] g = .ok (.nx [some .bag, some (.int i), some (.int o), none, none, none, none, none, none, none, none, none, none, none, none]) g' := fun i o h => by
    refine (unpH_at (d := .tup [.int i, .int o]) (l := [(1, .int i), (2, .int o)]) (bin2_at (x := .lst [.tup [.int 1, .int 1], .tup [.int 2, .int 1], .tup [.int 0, .int 2], .tup [.int 1, .int 2], .tup [.int 2, .int 0]]) (g' := g) rfl a1 h) rfl rfl).trans rfl
  have hv : v = 0 ∨ v = 1 ∨ v = 2 ∨ v = 3 ∨ v = 4 := by omega
  rcases hv with rfl | rfl | rfl | rfl | rfl
  · exact ⟨1, 1, g', hl 1 1 rfl, by omega, by omega, by omega, by omega⟩
  · exact ⟨2, 1, g', hl 2 1 rfl, by omega, by omega, by omega, by omega⟩
  · exact ⟨0, 2, g', hl 0 2 rfl, by omega, by omega, by omega, by omega⟩
  · exact ⟨1, 2, g', hl 1 2 rfl, by omega, by omega, by omega, by omega⟩
  · exact ⟨2, 0, g', hl 2 0 rfl, by omega, by omega, by omega, by omega⟩
end
end K66

/-! K66w: a case is kept. -/
namespace K66
open PySem PySem.Spec L2 RZ VC
open PyProof.Rows hiding St

theorem case_any (g : Bag) : ∃ g', r__law_case [.bag] g = .ok (.bl true) g' := by
  obtain ⟨ins, outs, g1, e1, hs⟩ := size_draw g
  obtain ⟨S, g2, m1, hM⟩ := machine_draw hs g1
  obtain ⟨B, g3, m2, hB⟩ := breaker_draw hs g2
  obtain ⟨gs, g4, m3, hgl, hgs⟩ := given_draw hs (encM ins outs S) (encB ins outs B) g3
  have i2 := hs.i
  have o2 := hs.o
  have s3 := hs.s3
  have hMl := hM.l1
  have hM4 := hM.l4
  have hBl := hB.l1
  have hB4 := hB.l4
  have kM := machine_ok hs hM
  have kB := breaker_ok hs hB
  have kMB := breaker_machine ins outs S
  have kBM := machine_breaker ins outs B
  have ka := answers_eq hs hM gs (by unfold line; omega) hgs
  obtain ⟨w1, w2, w3, w4⟩ := ansW_props hM gs 0 hMl hgs
  generalize ansW ins S 0 gs = ws at ka w1 w2 w3 w4
  have kf1 := law_follows_eq hs (d := .m S) hM hMl ws w2
  rw [w4] at kf1
  obtain ⟨n, j, hb, kmeet⟩ := meets_eq hs hM hB g4
  obtain ⟨n', j', hb', klaw⟩ := law_meeting_eq hs hM hB
  obtain ⟨rfl, rfl⟩ := hb.uniq hb'
  have hn16 := few hM hB hb.nd
  have hjn := hb.lt
  have hsl : ∀ l ∈ (List.range n).map (sl ins S B), l < 2 ^ (ins + outs) := fun l hl => by
    obtain ⟨i, _, rfl⟩ := List.mem_map.mp hl
    exact sl_lt hM hB i
  have hlen : ((List.range n).map (sl ins S B)).length = n := by simp
  have hhd : ∀ l ∈ ((List.range n).map (sl ins S B)).take j, l < 2 ^ (ins + outs) := fun l hl => hsl l (List.mem_of_mem_take hl)
  have hlpl : ∀ l ∈ ((List.range n).map (sl ins S B)).drop j, l < 2 ^ (ins + outs) := fun l hl => hsl l (List.mem_of_mem_drop hl)
  have hll : (((List.range n).map (sl ins S B)).drop j).length ≤ 16 := by rw [List.length_drop]; omega
  have hhl : (((List.range n).map (sl ins S B)).take j).length ≤ 16 := by rw [List.length_take]; omega
  have hlp : ((List.range n).map (sl ins S B)).drop j ≠ [] := fun z => by
    have := congrArg List.length z
    rw [List.length_drop, hlen] at this
    simp at this
    omega
  have goM := lasso_goes (S := S) (B := B) (d := .m S) (c := fun n => (sq ins S B n).1) (step_m hM hB) rfl (n := n) (j := j) (by omega) (by show (sq ins S B n).1 = _; rw [hb.eq])
  have goB := lasso_goes (S := S) (B := B) (d := .b B) (c := fun n => (sq ins S B n).2) (step_b hM hB) rfl (n := n) (j := j) (by omega) (by show (sq ins S B n).2 = _; rw [hb.eq])
  have hL : lassoOf ins S B n j = encL (((List.range n).map (sl ins S B)).take j) (((List.range n).map (sl ins S B)).drop j) := rfl
  rw [hL] at kmeet klaw
  generalize ((List.range n).map (sl ins S B)).take j = hd at *
  generalize ((List.range n).map (sl ins S B)).drop j = lp at *
  obtain ⟨y5, y10, y11, g5, t1⟩ := dev_turn (S := S) (B := B) hs (d := .m S) hM hMl hM4 (gs := gs) (ws := ws) (by omega) w2 hhl hhd hlp hll hlpl goM none none none g4
  obtain ⟨z5, z10, z11, g6, t2⟩ := dev_turn (S := S) (B := B) hs (d := .b B) hB hBl hB4 (gs := gs) (ws := ws) (by omega) w2 hhl hhd hlp hll hlpl goB y5 y10 y11 g5
  obtain ⟨g7, kred⟩ := reduced_eq hs hM g6
  have klr := law_reduced_eq hs hM g7
  obtain ⟨w, g8, kw, kwm, kwb⟩ := wrong_eq hs hM hB g7
  refine ⟨g8, fnD_ok (env := [some .bag, none, none, none, none, none, none, none, none, none, none, none, none, none, none]) rfl ?_⟩
  unfold s__law_case
  rw [seqS_ok e1]
  have f1 : asgH [] 3 (fnE r__law_machine (consA (varE 0) (consA (varE 1) (consA (varE 2) (consA (cE (.int 4)) nilA)))) p__law_machine.length) [some .bag, some (.int ins), some (.int outs), none, none, none, none, none, none, none, none, none, none, none, none] g1 = .ok (.nx [some .bag, some (.int ins), some (.int outs), some (encM ins outs S), none, none, none, none, none, none, none, none, none, none, none]) g2 := asgH_at (fnE_at (ds := [.bag, .int ins, .int outs, .int 4]) rfl rfl m1)
  rw [seqS_ok f1]
  have f2 : asgH [] 4 (fnE r__law_breaker (consA (varE 0) (consA (varE 1) (consA (varE 2) nilA))) p__law_breaker.length) [some .bag, some (.int ins), some (.int outs), some (encM ins outs S), none, none, none, none, none, none, none, none, none, none, none] g2 = .ok (.nx [some .bag, some (.int ins), some (.int outs), some (encM ins outs S), some (encB ins outs B), none, none, none, none, none, none, none, none, none, none]) g3 := asgH_at (fnE_at (ds := [.bag, .int ins, .int outs]) rfl rfl m2)
  rw [seqS_ok f2]
  refine (seqS_ok (ifF (g' := g3) (orFF (g' := g3) (testF (x := .bl true) (y := .bl true) (fnE_at (ds := [encM ins outs S]) rfl rfl (by rw [kM]; rfl)) rfl rfl) (orFF (g' := g3) (testF (x := .bl true) (y := .bl true) (fnE_at (ds := [encB ins outs B]) rfl rfl (by rw [kB]; rfl)) rfl rfl) (orFF (g' := g3) (testF (x := .bl false) (y := .bl false) (fnE_at (ds := [encB ins outs B]) rfl rfl (by rw [kBM]; rfl)) rfl rfl) (testF (x := .bl false) (y := .bl false) (fnE_at (ds := [encM ins outs S]) rfl rfl (by rw [kMB]; rfl)) rfl rfl)))))).trans ?_
  have f3 : asgH [] 6 (callE tupL (consA e_law_case1 nilA)) [some .bag, some (.int ins), some (.int outs), some (encM ins outs S), some (encB ins outs B), none, none, none, none, none, none, none, none, none, none] g3 = .ok (.nx [some .bag, some (.int ins), some (.int outs), some (encM ins outs S), some (encB ins outs B), none, some (.tup (gs.map nI)), none, none, none, none, none, none, none, none]) g4 := asgH_at (call1_at m3 rfl)
  rw [seqS_ok f3]
  have f4 : asgH [] 7 (fnE r_answers (consA (varE 3) (consA (varE 6) nilA)) p_answers.length) [some .bag, some (.int ins), some (.int outs), some (encM ins outs S), some (encB ins outs B), none, some (.tup (gs.map nI)), none, none, none, none, none, none, none, none] = M.ret (.nx [some .bag, some (.int ins), some (.int outs), some (encM ins outs S), some (encB ins outs B), none, some (.tup (gs.map nI)), some (.tup (ws.map nI)), none, none, none, none, none, none, none]) := asgH_of (fnE_of (ds := [encM ins outs S, .tup (gs.map nI)]) rfl rfl ka)
  rw [seqS_of f4]
  have hmask := mask_eq hs ws (by omega) none (some (.tup (gs.map nI))) none none none none (some (encM ins outs S)) (some (encB ins outs B))
  rw [w3] at hmask
  refine (seqS_ok (ifF (g' := g4) (orFF (g' := g4) (notT_at (b := true) (valT_at (fnE_at (ds := [encM ins outs S, .tup (ws.map nI)]) rfl rfl (by have := kf1; simp only [Dev.enc] at this; rw [this]; rfl)))) (testF (x := .tup (gs.map nI)) (y := .tup (gs.map nI)) (call1_at (by rw [hmask]; rfl) rfl) rfl (neVD_pl (by simp [pl, pls_nI]) (by simp [pl, pls_nI]) (by show PyData.depthAll (toPys (gs.map nI)) + 1 ≤ 60; rw [depth_nI]; decide) true (by simp)))))).trans ?_
  have f5 : asgH [] 8 (fnE r_meets (consA (varE 3) (consA (varE 4) nilA)) p_meets.length) [some .bag, some (.int ins), some (.int outs), some (encM ins outs S), some (encB ins outs B), none, some (.tup (gs.map nI)), some (.tup (ws.map nI)), none, none, none, none, none, none, none] g4 = .ok (.nx (cE_ ins outs S B gs ws hd lp none none none none)) g4 := asgH_at (fnE_at (ds := [encM ins outs S, encB ins outs B]) rfl rfl kmeet)
  rw [seqS_ok f5]
  refine (seqS_ok (ifF (g' := g4) (testF (x := encL hd lp) (y := encL hd lp) rfl (fnE_at (ds := [encM ins outs S, encB ins outs B]) rfl rfl (by rw [klaw]; rfl)) (neVD_pl (pl_encL _ _) (pl_encL _ _) (depth_encL _ _) true (by simp))))).trans ?_
  have f6 : forH [] (seqI (tupE (consA (varE 3) (consA (varE 4) nilA)))) (nameB 9) b_law_case5 (cE_ ins outs S B gs ws hd lp none none none none) g4 = .ok (.nx (cE_ ins outs S B gs ws hd lp z5 (some (encB ins outs B)) z10 z11)) g6 := by
    rw [forH_of (ds := [encM ins outs S, encB ins outs B]) rfl, forGo_cons (l := [(9, encM ins outs S)]) rfl rfl]
    show M.bnd (b_law_case5 (cE_ ins outs S B gs ws hd lp none (some (Dev.enc ins outs (.m S))) none none)) _ g4 = _
    rw [bnd_okM t1]
    show forGo [] (nameB 9) b_law_case5 [encB ins outs B] _ g5 = _
    rw [forGo_cons (l := [(9, encB ins outs B)]) rfl rfl]
    show M.bnd (b_law_case5 (cE_ ins outs S B gs ws hd lp y5 (some (Dev.enc ins outs (.b B))) y10 y11)) _ g5 = _
    rw [bnd_okM t2]
    rfl
  rw [seqS_ok f6]
  refine (seqS_ok (ifF (g' := g7) (testF (x := encM ins outs (numG (nm ins S) (nm ins S) S 5 [0] [])) (y := encM ins outs (numG (nm ins S) (nm ins S) S 5 [0] [])) (g1 := g7) (fnE_at (ds := [encM ins outs S]) rfl rfl kred) (fnE_at (ds := [encM ins outs S]) rfl rfl klr) (neVD_pl (pl_encM _ _ _) (pl_encM _ _ _) (depth_encM _ _ _) true (by simp))))).trans ?_
  have f7 : asgH [] 12 (fnE r__law_wrong (consA (varE 0) (consA (varE 3) (consA (varE 4) nilA))) p__law_wrong.length) (cE_ ins outs S B gs ws hd lp z5 (some (encB ins outs B)) z10 z11) g7 = .ok (.nx ((cE_ ins outs S B gs ws hd lp z5 (some (encB ins outs B)) z10 z11).set 12 (some w))) g8 := asgH_at (fnE_at (ds := [.bag, encM ins outs S, encB ins outs B]) rfl rfl kw)
  rw [seqS_ok f7]
  refine (seqS_ok (ifF (g' := g8) (orFF (g' := g8) (testF (x := .bl false) (y := .bl false) (fnE_at (ds := [w]) rfl rfl (by rw [kwm]; rfl)) rfl rfl) (orFF (g' := g8) (testF (x := .bl false) (y := .bl false) (fnE_at (ds := [w]) rfl rfl (by rw [kwb]; rfl)) rfl rfl) (orFF (g' := g8) (testF (x := .int 0) (y := .int 0) (word_at (x := w) (y := .tup []) rfl (catch_0 (answers_no kwm _ g8))) rfl (by simp)) (testF (x := .int 0) (y := .int 0) (word_at (x := w) (y := .tup []) rfl (catch_0 (follows_no kwm kwb _ g8))) rfl (by simp))))))).trans ?_
  have hshi := shl_one ins (by omega)
  have hab := answers_bad hs hM [2 ^ ins] (by show 1 < line; unfold line; omega) (by simp) g8
  refine (seqS_ok (ifF (g' := g8) (orFF (g' := g8) (testF (x := .int 1) (y := .int 1) (word_at (x := encM ins outs S) (y := encM ins outs S) rfl (catch_0 (meets_no hs hM g8))) rfl (by simp)) (testF (x := .str "word") (y := .str "word") (word_at (x := encM ins outs S) (y := .tup ([2 ^ ins].map nI)) (args2 rfl (tup1_of (bin2_of (x := .int 1) (y := .int ins) rfl rfl hshi))) (catch_1 hab)) rfl (by simp))))).trans ?_
  have hsho := shl_one (ins + outs) (by omega)
  have hfb := follows_bad hs (d := .m S) hM [2 ^ (ins + outs)] (by show 1 ≤ line; unfold line; omega) (by simp) g8
  have hlb := follows_lasso_bad hs (d := .b B) hB g8
  have a1 : bin2 eqVD (wordE r_follows (consA (varE 3) (consA (tupE (consA (bin2 shlD (cE (.int 1)) (bin2 addD (varE 1) (varE 2))) nilA)) nilA))) (cE (.str "word")) ((cE_ ins outs S B gs ws hd lp z5 (some (encB ins outs B)) z10 z11).set 12 (some w)) g8 = .ok (.bl true) g8 := by
    refine bin2_at (x := .str "word") (y := .str "word") (g' := g8) (word_at (x := encM ins outs S) (y := .tup ([2 ^ (ins + outs)].map nI)) (args2 rfl (tup1_of (bin2_of (x := .int 1) (y := .int ((ins + outs : Nat) : Int)) rfl ?_ hsho))) (catch_1 hfb)) rfl (by simp)
    refine bin2_of (x := .int ins) (y := .int outs) rfl rfl ?_
    rw [addD_ii]
    push_cast
    rfl
  have a2 : bin2 eqVD (wordE r_follows_lasso (consA (varE 4) (consA (tupE (consA (cE (.str "lasso")) (consA (tupE nilA) (consA (tupE nilA) nilA)))) nilA))) (cE (.str "word")) ((cE_ ins outs S B gs ws hd lp z5 (some (encB ins outs B)) z10 z11).set 12 (some w)) g8 = .ok (.bl true) g8 :=
    bin2_at (x := .str "word") (y := .str "word") (g' := g8) (word_at (x := encB ins outs B) (y := encL [] []) rfl (catch_1 hlb)) rfl (by simp)
  refine retS_at ?_
  rw [andE_eq, bnd_okM a1, andK_bl, if_pos rfl]
  exact a2
theorem case_ok (ns : List Int) (k : Int) (_ : 0 ≤ k) (_ : k < 3) : ∃ g', r__law_case [.bag] (bagOf ns k) = .ok (.bl true) g' := case_any _
end K66

/-! K66b: the walks. -/
namespace K66
open PySem PySem.Spec L2 RZ VC
open PyProof.Rows hiding St
section
variable {P : Program} {w : World} {K : PySem.W.Frag} {mg : Str → Option Value} {base : Heap}
theorem sc_ini_BadMachine : FnScope ["self", "place"] ["self", "place"] (defScope st_ini_BadMachine) := ⟨rfl, rfl, rfl, by decide +kernel, rfl, by decide +kernel, by decide +kernel⟩
theorem ok_ini_BadMachine (D : ExcDef K mg "BadMachine" "BadMachine.__init__" "place" st_ini_BadMachine ["self", "place"]) : FnOk P w K mg base CX0 1 D.f D.fd ["self", "place"] (spIni D.C "place") := by
  refine D.F.ok sc_ini_BadMachine (fun vs H Q E h => by obtain ⟨a, y, rfl, _⟩ := h; rfl) (fun cdv A outer s H vs Q E hr h => ?_)
  obtain ⟨a, y, rfl, hH, k⟩ := h
  exact ⟨_, pss_one (ps_ost (pv 0) (pv 1)), y, rfl, .ref a, rfl, a, D.C, rfl, D.T, D.no, .inl ⟨hH, fun dx h ne => k dx h ne⟩⟩
theorem sc_is_integer : FnScope n_is_integer p_is_integer (defScope st_is_integer) := ⟨rfl, rfl, rfl, by decide +kernel, rfl, by decide +kernel, by decide +kernel⟩
theorem ok_is_integer (T : Txt K mg) (ad : Option Addr) : FnOk P w K mg base (L2.CX P w) 1 T.d_is_integer.f T.d_is_integer.fd p_is_integer (spV ⟨ad, w⟩ T.xc p_is_integer.length r_is_integer) :=
  fnV (k := 0) T.d_is_integer.F sc_is_integer ⟨ad, w⟩ T.xc s_is_integer fun cdv A outer s H E hr F => (svs_one (sv_ret (ev_and (ev_isa (.inr (.inl rfl)) (by rfl) T.b_isinstance (ev_var 0 (pv 0)) (pe_tyN (by rfl) T.b_int (by decide +kernel))) (ev_and (ev_not (ev_isa (.inl rfl) (by rfl) T.b_isinstance (ev_var 0 (pv 0)) (pe_tyN (by rfl) T.b_bool (by decide +kernel)))) (ev_one (ev_chain (.inr (.inl rfl)) (.inr (.inl rfl)) (ev_var 1 (pv 1)) (ev_var 0 (pv 0)) (ev_var 2 (pv 2))))))))
theorem sc_is_word : FnScope n_is_word p_is_word (defScope st_is_word) := ⟨rfl, rfl, rfl, by decide +kernel, rfl, by decide +kernel, by decide +kernel⟩
theorem ok_is_word (T : Txt K mg) (ad : Option Addr) : FnOk P w K mg base (L2.CX P w) 2 T.d_is_word.f T.d_is_word.fd p_is_word (spV ⟨ad, w⟩ T.xc p_is_word.length r_is_word) :=
  fnV (k := 1) T.d_is_word.F sc_is_word ⟨ad, w⟩ T.xc s_is_word fun cdv A outer s H E hr F => (svs_one (sv_ret (ev_and (ev_isa (.inr (.inr (.inr (.inl rfl)))) (by rfl) T.b_isinstance (ev_var 1 (pv 1)) (pe_tyN (by rfl) T.b_tuple (by decide +kernel))) (ev_one (ev_callB (o_all (by rfl)) (by rfl) T.b_all (by decide +kernel) (av_cons (ev_lc (own := [("letter", 2)]) (by rfl) sc_is_word.nd (iv_seq (ev_var 1 (pv 1))) (blkOk_by (N := n_is_word) (sc := defScope st_is_word) (own := [("letter", 2)]) (by decide +kernel)) (fun _ _ _ _ _ => (bv_name (pg_name (i := 2) sc_is_word.nd (by rfl) (by first | exact Or.inl rfl | exact Or.inr rfl)))) (fun _ _ _ _ _ => tvs_nil) (fun _ _ _ _ _ => (ev_callC (ok_is_integer T ad) (hr.mono (by decide)) (by rfl) T.d_is_integer.m T.d_is_integer.k T.d_is_integer.b (av_cons (ev_var 2 (pv 2)) (av_cons ev_int (av_cons (ev_bin o_sub (ev_gtup (by rfl) T.g_POWERS T.w_POWERS (ev_var 0 (pv 0)) (by intro _ _; rfl)) ev_int) av_nil))))) (sub_name (by decide))) av_nil))))))
theorem sc_is_lasso : FnScope n_is_lasso p_is_lasso (defScope st_is_lasso) := ⟨rfl, rfl, rfl, by decide +kernel, rfl, by decide +kernel, by decide +kernel⟩
theorem ok_is_lasso (T : Txt K mg) (ad : Option Addr) : FnOk P w K mg base (L2.CX P w) 3 T.d_is_lasso.f T.d_is_lasso.fd p_is_lasso (spV ⟨ad, w⟩ T.xc p_is_lasso.length r_is_lasso) :=
  fnV (k := 2) T.d_is_lasso.F sc_is_lasso ⟨ad, w⟩ T.xc s_is_lasso fun cdv A outer s H E hr F => (svs_cons (O1 := []) (sv_if (O := []) (O' := []) (TW.tv (tw_or (tv_not (tv_val (ev_isa (.inr (.inr (.inr (.inl rfl)))) (by rfl) T.b_isinstance (ev_var 1 (pv 1)) (pe_tyN (by rfl) T.b_tuple (by decide +kernel))))) (tw_or (tv_cmp (o_ne (Room.vs hr)) (ev_callB o_len (by rfl) T.b_len (by decide +kernel) (av_cons (ev_var 1 (pv 1)) av_nil)) ev_int (nomark _)) (tw_or1 (tv_cmp (o_ne (Room.vs hr)) (ev_ix (ev_var 1 (pv 1)) ev_int) ev_str (nomark _)))))) (svs_one (sv_ret ev_bl)) svs_nil) (svs_one (sv_ret (ev_and (ev_callC (ok_is_word T ad) (hr.mono (by decide)) (by rfl) T.d_is_word.m T.d_is_word.k T.d_is_word.b (av_cons (ev_var 0 (pv 0)) (av_cons (ev_ix (ev_var 1 (pv 1)) ev_int) av_nil))) (ev_and (ev_callC (ok_is_word T ad) (hr.mono (by decide)) (by rfl) T.d_is_word.m T.d_is_word.k T.d_is_word.b (av_cons (ev_var 0 (pv 0)) (av_cons (ev_ix (ev_var 1 (pv 1)) ev_int) av_nil))) (ev_one (ev_cmp (o_ne (Room.vs hr)) (ev_ix (ev_var 1 (pv 1)) ev_int) (ev_tup av_nil) (nomark _))))))))
theorem sc_has_head : FnScope n_has_head p_has_head (defScope st_has_head) := ⟨rfl, rfl, rfl, by decide +kernel, rfl, by decide +kernel, by decide +kernel⟩
theorem ok_has_head (T : Txt K mg) (ad : Option Addr) : FnOk P w K mg base (L2.CX P w) 2 T.d_has_head.f T.d_has_head.fd p_has_head (spV ⟨ad, w⟩ T.xc p_has_head.length r_has_head) :=
  fnV (k := 1) T.d_has_head.F sc_has_head ⟨ad, w⟩ T.xc s_has_head fun cdv A outer s H E hr F => (svs_cons (O1 := []) (sv_if (O := []) (O' := []) (TW.tv (tw_or (tv_not (tv_val (ev_isa (.inr (.inr (.inr (.inl rfl)))) (by rfl) T.b_isinstance (ev_var 0 (pv 0)) (pe_tyN (by rfl) T.b_tuple (by decide +kernel))))) (tw_or (tv_cmp (o_ne (Room.vs hr)) (ev_callB o_len (by rfl) T.b_len (by decide +kernel) (av_cons (ev_var 0 (pv 0)) av_nil)) ev_int (nomark _)) (tw_or1 (tv_cmp (o_ne (Room.vs hr)) (ev_ix (ev_var 0 (pv 0)) ev_int) (ev_var 1 (pv 1)) (nomark _)))))) (svs_one (sv_ret ev_bl)) svs_nil) (svs_cons (O1 := []) (sv_if (O := []) (O' := []) (TW.tv (tw_or (tv_not (tv_val (ev_callC (ok_is_integer T ad) (hr.mono (by decide)) (by rfl) T.d_is_integer.m T.d_is_integer.k T.d_is_integer.b (av_cons (ev_ix (ev_var 0 (pv 0)) ev_int) (av_cons ev_int (av_cons (ev_gint (by rfl) T.g_MOST_TRACKS) av_nil)))))) (tw_or1 (tv_not (tv_val (ev_callC (ok_is_integer T ad) (hr.mono (by decide)) (by rfl) T.d_is_integer.m T.d_is_integer.k T.d_is_integer.b (av_cons (ev_ix (ev_var 0 (pv 0)) ev_int) (av_cons ev_int (av_cons (ev_gint (by rfl) T.g_MOST_TRACKS) av_nil))))))))) (svs_one (sv_ret ev_bl)) svs_nil) (svs_cons (O1 := []) (sv_if (O := []) (O' := []) (tv_not (tv_chain (.inr (.inl rfl)) (.inr (.inl rfl)) ev_int (ev_bin o_add (ev_ix (ev_var 0 (pv 0)) ev_int) (ev_ix (ev_var 0 (pv 0)) ev_int)) (ev_gint (by rfl) T.g_MOST_TRACKS))) (svs_one (sv_ret ev_bl)) svs_nil) (svs_one (sv_ret (ev_and (ev_isa (.inr (.inr (.inr (.inl rfl)))) (by rfl) T.b_isinstance (ev_ix (ev_var 0 (pv 0)) ev_int) (pe_tyN (by rfl) T.b_tuple (by decide +kernel))) (ev_one (ev_cmp o_gt (ev_callB o_len (by rfl) T.b_len (by decide +kernel) (av_cons (ev_ix (ev_var 0 (pv 0)) ev_int) av_nil)) ev_int (nomark _)))))))))
theorem sc_is_answer : FnScope n_is_answer p_is_answer (defScope st_is_answer) := ⟨rfl, rfl, rfl, by decide +kernel, rfl, by decide +kernel, by decide +kernel⟩
theorem ok_is_answer (T : Txt K mg) (ad : Option Addr) : FnOk P w K mg base (L2.CX P w) 2 T.d_is_answer.f T.d_is_answer.fd p_is_answer (spV ⟨ad, w⟩ T.xc p_is_answer.length r_is_answer) :=
  fnV (k := 1) T.d_is_answer.F sc_is_answer ⟨ad, w⟩ T.xc s_is_answer fun cdv A outer s H E hr F => (svs_cons (O1 := []) (sv_if (O := []) (O' := []) (TW.tv (tw_or (tv_not (tv_val (ev_isa (.inr (.inr (.inr (.inl rfl)))) (by rfl) T.b_isinstance (ev_var 0 (pv 0)) (pe_tyN (by rfl) T.b_tuple (by decide +kernel))))) (tw_or1 (tv_cmp (o_ne (Room.vs hr)) (ev_callB o_len (by rfl) T.b_len (by decide +kernel) (av_cons (ev_var 0 (pv 0)) av_nil)) ev_int (nomark _))))) (svs_one (sv_ret ev_bl)) svs_nil) (svs_one (sv_ret (ev_and (ev_callC (ok_is_integer T ad) (hr.mono (by decide)) (by rfl) T.d_is_integer.m T.d_is_integer.k T.d_is_integer.b (av_cons (ev_ix (ev_var 0 (pv 0)) ev_int) (av_cons ev_int (av_cons (ev_bin o_sub (ev_bin o_shl ev_int (ev_var 1 (pv 1))) ev_int) av_nil)))) (ev_one (ev_callC (ok_is_integer T ad) (hr.mono (by decide)) (by rfl) T.d_is_integer.m T.d_is_integer.k T.d_is_integer.b (av_cons (ev_ix (ev_var 0 (pv 0)) ev_int) (av_cons ev_int (av_cons (ev_bin o_sub (ev_var 2 (pv 2)) ev_int) av_nil)))))))))
theorem sc_is_machine : FnScope n_is_machine p_is_machine (defScope st_is_machine) := ⟨rfl, rfl, rfl, by decide +kernel, rfl, by decide +kernel, by decide +kernel⟩
theorem ok_is_machine (T : Txt K mg) (ad : Option Addr) : FnOk P w K mg base (L2.CX P w) 3 T.d_is_machine.f T.d_is_machine.fd p_is_machine (spV ⟨ad, w⟩ T.xc p_is_machine.length r_is_machine) :=
  fnV (k := 2) T.d_is_machine.F sc_is_machine ⟨ad, w⟩ T.xc s_is_machine fun cdv A outer s H E hr F => (svs_cons (O1 := []) (sv_if (O := []) (O' := []) (tv_not (tv_val (ev_callC (ok_has_head T ad) (hr.mono (by decide)) (by rfl) T.d_has_head.m T.d_has_head.k T.d_has_head.b (av_cons (ev_var 0 (pv 0)) (av_cons ev_str av_nil))))) (svs_one (sv_ret ev_bl)) svs_nil) (svs_cons (O1 := []) (sv_unpH (O := []) (ps_asg (ev_var 0 (pv 0)) (bv_tup (by rfl) (bvs_cons (bv_name (pg_name (i := 1) sc_is_machine.nd (by rfl) (by first | exact Or.inl rfl | exact Or.inr rfl))) (bvs_cons (bv_name (pg_name (i := 2) sc_is_machine.nd (by rfl) (by first | exact Or.inl rfl | exact Or.inr rfl))) (bvs_cons (bv_name (pg_name (i := 3) sc_is_machine.nd (by rfl) (by first | exact Or.inl rfl | exact Or.inr rfl))) (bvs_cons (bv_name (pg_name (i := 4) sc_is_machine.nd (by rfl) (by first | exact Or.inl rfl | exact Or.inr rfl))) bvs_nil)))))) red_ev) (svs_cons (O1 := []) (sv_forH (O := []) (passes_of (by rfl)) (by rfl) (iv_seq (ev_var 4 (pv 4))) (bv_name (pg_name (i := 5) sc_is_machine.nd (by rfl) (by first | exact Or.inl rfl | exact Or.inr rfl))) (ρb := b_is_machine2) (svs_weak (O1 := []) (O2 := []) (svs_cons (O1 := []) (sv_if (O := []) (O' := []) (TW.tv (tw_or (tv_not (tv_val (ev_isa (.inr (.inr (.inr (.inl rfl)))) (by rfl) T.b_isinstance (ev_var 5 (pv 5)) (pe_tyN (by rfl) T.b_tuple (by decide +kernel))))) (tw_or1 (tv_cmp (o_ne (Room.vs hr)) (ev_callB o_len (by rfl) T.b_len (by decide +kernel) (av_cons (ev_var 5 (pv 5)) av_nil)) (ev_bin o_shl ev_int (ev_var 2 (pv 2))) (nomark _))))) (svs_one (sv_ret ev_bl)) svs_nil) (svs_one (sv_if (O := []) (O' := []) (tv_not (tv_val (ev_callB (o_all (by rfl)) (by rfl) T.b_all (by decide +kernel) (av_cons (ev_lc (own := [("one", 6)]) (by rfl) sc_is_machine.nd (iv_seq (ev_var 5 (pv 5))) (blkOk_by (N := n_is_machine) (sc := defScope st_is_machine) (own := [("one", 6)]) (by decide +kernel)) (fun _ _ _ _ _ => (bv_name (pg_name (i := 6) sc_is_machine.nd (by rfl) (by first | exact Or.inl rfl | exact Or.inr rfl)))) (fun _ _ _ _ _ => tvs_nil) (fun _ _ _ _ _ => (ev_callC (ok_is_answer T ad) (hr.mono (by decide)) (by rfl) T.d_is_answer.m T.d_is_answer.k T.d_is_answer.b (av_cons (ev_var 6 (pv 6)) (av_cons (ev_var 3 (pv 3)) (av_cons (ev_callB o_len (by rfl) T.b_len (by decide +kernel) (av_cons (ev_var 4 (pv 4)) av_nil)) av_nil))))) (sub_name (by decide))) av_nil)))) (svs_one (sv_ret ev_bl)) svs_nil))) (osub rfl) (osub rfl))) (svs_one (sv_ret ev_bl)))))
theorem sc_is_breaker : FnScope n_is_breaker p_is_breaker (defScope st_is_breaker) := ⟨rfl, rfl, rfl, by decide +kernel, rfl, by decide +kernel, by decide +kernel⟩
theorem ok_is_breaker (T : Txt K mg) (ad : Option Addr) : FnOk P w K mg base (L2.CX P w) 3 T.d_is_breaker.f T.d_is_breaker.fd p_is_breaker (spV ⟨ad, w⟩ T.xc p_is_breaker.length r_is_breaker) :=
  fnV (k := 2) T.d_is_breaker.F sc_is_breaker ⟨ad, w⟩ T.xc s_is_breaker fun cdv A outer s H E hr F => (svs_cons (O1 := []) (sv_if (O := []) (O' := []) (tv_not (tv_val (ev_callC (ok_has_head T ad) (hr.mono (by decide)) (by rfl) T.d_has_head.m T.d_has_head.k T.d_has_head.b (av_cons (ev_var 0 (pv 0)) (av_cons ev_str av_nil))))) (svs_one (sv_ret ev_bl)) svs_nil) (svs_cons (O1 := []) (sv_unpH (O := []) (ps_asg (ev_var 0 (pv 0)) (bv_tup (by rfl) (bvs_cons (bv_name (pg_name (i := 1) sc_is_breaker.nd (by rfl) (by first | exact Or.inl rfl | exact Or.inr rfl))) (bvs_cons (bv_name (pg_name (i := 2) sc_is_breaker.nd (by rfl) (by first | exact Or.inl rfl | exact Or.inr rfl))) (bvs_cons (bv_name (pg_name (i := 3) sc_is_breaker.nd (by rfl) (by first | exact Or.inl rfl | exact Or.inr rfl))) (bvs_cons (bv_name (pg_name (i := 4) sc_is_breaker.nd (by rfl) (by first | exact Or.inl rfl | exact Or.inr rfl))) bvs_nil)))))) red_ev) (svs_cons (O1 := []) (sv_forH (O := []) (passes_of (by rfl)) (by rfl) (iv_seq (ev_var 4 (pv 4))) (bv_name (pg_name (i := 5) sc_is_breaker.nd (by rfl) (by first | exact Or.inl rfl | exact Or.inr rfl))) (ρb := b_is_breaker2) (svs_weak (O1 := []) (O2 := []) (svs_cons (O1 := []) (sv_if (O := []) (O' := []) (TW.tv (tw_or (tv_not (tv_val (ev_isa (.inr (.inr (.inr (.inl rfl)))) (by rfl) T.b_isinstance (ev_var 5 (pv 5)) (pe_tyN (by rfl) T.b_tuple (by decide +kernel))))) (tw_or (tv_cmp (o_ne (Room.vs hr)) (ev_callB o_len (by rfl) T.b_len (by decide +kernel) (av_cons (ev_var 5 (pv 5)) av_nil)) ev_int (nomark _)) (tw_or1 (tv_not (tv_val (ev_callC (ok_is_integer T ad) (hr.mono (by decide)) (by rfl) T.d_is_integer.m T.d_is_integer.k T.d_is_integer.b (av_cons (ev_ix (ev_var 5 (pv 5)) ev_int) (av_cons ev_int (av_cons (ev_bin o_sub (ev_bin o_shl ev_int (ev_var 2 (pv 2))) ev_int) av_nil)))))))))) (svs_one (sv_ret ev_bl)) svs_nil) (svs_cons (O1 := []) (sv_if (O := []) (O' := []) (TW.tv (tw_or (tv_not (tv_val (ev_isa (.inr (.inr (.inr (.inl rfl)))) (by rfl) T.b_isinstance (ev_ix (ev_var 5 (pv 5)) ev_int) (pe_tyN (by rfl) T.b_tuple (by decide +kernel))))) (tw_or1 (tv_cmp (o_ne (Room.vs hr)) (ev_callB o_len (by rfl) T.b_len (by decide +kernel) (av_cons (ev_ix (ev_var 5 (pv 5)) ev_int) av_nil)) (ev_bin o_shl ev_int (ev_var 3 (pv 3))) (nomark _))))) (svs_one (sv_ret ev_bl)) svs_nil) (svs_one (sv_if (O := []) (O' := []) (tv_not (tv_val (ev_callB (o_all (by rfl)) (by rfl) T.b_all (by decide +kernel) (av_cons (ev_lc (own := [("one", 6)]) (by rfl) sc_is_breaker.nd (iv_seq (ev_ix (ev_var 5 (pv 5)) ev_int)) (blkOk_by (N := n_is_breaker) (sc := defScope st_is_breaker) (own := [("one", 6)]) (by decide +kernel)) (fun _ _ _ _ _ => (bv_name (pg_name (i := 6) sc_is_breaker.nd (by rfl) (by first | exact Or.inl rfl | exact Or.inr rfl)))) (fun _ _ _ _ _ => tvs_nil) (fun _ _ _ _ _ => (ev_callC (ok_is_integer T ad) (hr.mono (by decide)) (by rfl) T.d_is_integer.m T.d_is_integer.k T.d_is_integer.b (av_cons (ev_var 6 (pv 6)) (av_cons ev_int (av_cons (ev_bin o_sub (ev_callB o_len (by rfl) T.b_len (by decide +kernel) (av_cons (ev_var 4 (pv 4)) av_nil)) ev_int) av_nil))))) (sub_name (by decide))) av_nil)))) (svs_one (sv_ret ev_bl)) svs_nil)))) (osub rfl) (osub rfl))) (svs_one (sv_ret ev_bl)))))
theorem sc_classes_of : FnScope n_classes_of p_classes_of (defScope st_classes_of) := ⟨rfl, rfl, rfl, by decide +kernel, rfl, by decide +kernel, by decide +kernel⟩
theorem ok_classes_of (T : Txt K mg) (ad : Option Addr) : FnOk P w K mg base (L2.CX P w) 1 T.d_classes_of.f T.d_classes_of.fd p_classes_of (spV ⟨ad, w⟩ T.xc p_classes_of.length r_classes_of) :=
  fnV (k := 0) T.d_classes_of.F sc_classes_of ⟨ad, w⟩ T.xc s_classes_of fun cdv A outer s H E hr F => (svs_weak (O1 := []) (O2 := []) (svs_cons (O1 := []) (sv_asgH (O := []) (O' := []) (i := 1) (ps_set (i := 1) sc_classes_of.nd (by rfl) (by first | exact Or.inl rfl | exact Or.inr rfl) (ev_bin o_mul2 (ev_lst (av_cons ev_int av_nil)) (ev_callB o_len (by rfl) T.b_len (by decide +kernel) (av_cons (ev_var 0 (pv 0)) av_nil)))) red_ev (oset rfl) (by decide)) (svs_cons (O1 := []) (sv_asgH (O := []) (O' := []) (i := 2) (ps_set (i := 2) sc_classes_of.nd (by rfl) (by first | exact Or.inl rfl | exact Or.inr rfl) ev_int) red_ev (oset rfl) (by decide)) (svs_one (sv_while (O := []) (passes_of (by rfl)) (tv_val ev_bl) (ρb := b_classes_of3) (svs_weak (O1 := []) (O2 := []) (svs_cons (O1 := []) (sv_asgH (O := []) (O' := []) (i := 3) (ps_set (i := 3) sc_classes_of.nd (by rfl) (by first | exact Or.inl rfl | exact Or.inr rfl) (ev_newN rfl)) red_ev (oset rfl) (by decide)) (svs_cons (O1 := [4]) (sv_asgNH (O := []) (O' := [4]) (i := 4) (ps_set (i := 4) sc_classes_of.nd (by rfl) (by first | exact Or.inl rfl | exact Or.inr rfl) (evn_lst av_nil)) redN_ev (oset rfl) (by decide)) (svs_cons (O1 := [4]) (sv_forH (O := [4]) (passes_of (by rfl)) (by rfl) (iv_enumT (by rfl) T.b_enumerate (av_cons (ev_var 0 (pv 0)) av_nil)) (bv_tup (by rfl) (bvs_cons (bv_name (pg_name (i := 5) sc_classes_of.nd (by rfl) (by first | exact Or.inl rfl | exact Or.inr rfl))) (bvs_cons (bv_name (pg_name (i := 6) sc_classes_of.nd (by rfl) (by first | exact Or.inl rfl | exact Or.inr rfl))) bvs_nil))) (ρb := b_classes_of2) (svs_weak (O1 := [4]) (O2 := [4]) (svs_cons (O1 := [4]) (sv_asgH (O := [4]) (O' := [4]) (i := 7) (ps_set (i := 7) sc_classes_of.nd (by rfl) (by first | exact Or.inl rfl | exact Or.inr rfl) (ev_tup (av_cons (ev_ix (ev_var 1 (pv 1)) (ev_var 5 (pv 5))) (av_cons (ev_callTy o_tup (by rfl) T.b_tuple (by decide +kernel) (av_cons (ev_lc (own := [("output", 8), ("to", 9)]) (by rfl) sc_classes_of.nd (iv_seq (ev_var 6 (pv 6))) (blkOk_by (N := n_classes_of) (sc := defScope st_classes_of) (own := [("output", 8), ("to", 9)]) (by decide +kernel)) (fun _ _ _ _ _ => (bv_tup (by rfl) (bvs_cons (bv_name (pg_name (i := 8) sc_classes_of.nd (by rfl) (by first | exact Or.inl rfl | exact Or.inr rfl))) (bvs_cons (bv_name (pg_name (i := 9) sc_classes_of.nd (by rfl) (by first | exact Or.inl rfl | exact Or.inr rfl))) bvs_nil)))) (fun _ _ _ _ _ => tvs_nil) (fun _ _ _ _ _ => (ev_tup (av_cons (ev_var 8 (pv 8)) (av_cons (ev_ix (ev_var 1 (pv 1)) (ev_var 9 (pv 9))) av_nil)))) (sub_tup (subs_cons (sub_name (by decide)) (subs_cons (sub_name (by decide)) subs_nil)))) av_nil)) av_nil)))) red_ev (oset rfl) (by decide)) (svs_one (sv_appH (O := [4]) (i := 4) (ps_expr (pe_bm PySem.F.plainAttrs_list PySem.F.slot_list_append PySem.F.type_list_append mt_append (pv 4) (pa_cons (ev_setd rfl (Room.vs hr) (ev_var 3 (pv 3)) (ev_var 7 (pv 7)) (ev_callBM (o_lenM rfl) (by rfl) T.b_len (by decide +kernel) (av_cons (ev_var 3 (pv 3)) av_nil)) ⟨by rfl, by rfl, by rfl, by rfl⟩) pa_nil))) red_ev (by decide)))) (osub rfl) (osub rfl))) (svs_cons (O1 := [4]) (sv_if (O := [4]) (O' := [4]) (tv_cmp (o_eq (Room.vs hr)) (ev_callBM (o_lenM rfl) (by rfl) T.b_len (by decide +kernel) (av_cons (ev_var 3 (pv 3)) av_nil)) (ev_var 2 (pv 2)) (nomark _)) (svs_one (sv_ret (ev_var 4 (pv 4)))) svs_nil) (svs_cons (O1 := [4]) (sv_asgH (O := [4]) (O' := [4]) (i := 2) (ps_set (i := 2) sc_classes_of.nd (by rfl) (by first | exact Or.inl rfl | exact Or.inr rfl) (ev_callBM (o_lenM rfl) (by rfl) T.b_len (by decide +kernel) (av_cons (ev_var 3 (pv 3)) av_nil))) red_ev (oset rfl) (by decide)) (svs_one (sv_weak (O1 := []) (O2 := []) (sv_asgH (O := []) (O' := []) (i := 1) (ps_set (i := 1) sc_classes_of.nd (by rfl) (by first | exact Or.inl rfl | exact Or.inr rfl) (ev_var 4 (pv 4))) red_ev (oset rfl) (by decide)) (osub rfl) (osub rfl)))))))) (osub rfl) (osub rfl)))))) (osub rfl) (osub rfl))
theorem sc_numbered : FnScope n_numbered p_numbered (defScope st_numbered) := ⟨rfl, rfl, rfl, by decide +kernel, rfl, by decide +kernel, by decide +kernel⟩
theorem ok_numbered (T : Txt K mg) (ad : Option Addr) : FnOk P w K mg base (L2.CX P w) 1 T.d_numbered.f T.d_numbered.fd p_numbered (spV ⟨ad, w⟩ T.xc p_numbered.length r_numbered) :=
  fnV (k := 0) T.d_numbered.F sc_numbered ⟨ad, w⟩ T.xc s_numbered fun cdv A outer s H E hr F => (svs_cons (O1 := [2]) (sv_asgNH (O := []) (O' := [2]) (i := 2) (ps_set (i := 2) sc_numbered.nd (by rfl) (by first | exact Or.inl rfl | exact Or.inr rfl) (evn_disp1K (ev_ix (ev_var 1 (pv 1)) ev_int) ev_int)) redN_ev (oset rfl) (by decide)) (svs_cons (O1 := [2, 3]) (sv_asgNH (O := [2]) (O' := [2, 3]) (i := 3) (ps_set (i := 3) sc_numbered.nd (by rfl) (by first | exact Or.inl rfl | exact Or.inr rfl) (evn_lst (av_cons ev_int av_nil))) redN_ev (oset rfl) (by decide)) (svs_cons (O1 := [2, 3, 4]) (sv_asgNH (O := [2, 3]) (O' := [2, 3, 4]) (i := 4) (ps_set (i := 4) sc_numbered.nd (by rfl) (by first | exact Or.inl rfl | exact Or.inr rfl) (evn_lst av_nil)) redN_ev (oset rfl) (by decide)) (svs_cons (O1 := [2, 3, 4]) (sv_while (O := [2, 3, 4]) (passes_of (by rfl)) (tv_cmp o_lt (ev_callB o_len (by rfl) T.b_len (by decide +kernel) (av_cons (ev_var 4 (pv 4)) av_nil)) (ev_callB o_len (by rfl) T.b_len (by decide +kernel) (av_cons (ev_var 3 (pv 3)) av_nil)) (nomark _)) (ρb := b_numbered2) (svs_weak (O1 := [2, 3, 4]) (O2 := [2, 3, 4, 5]) (svs_cons (O1 := [2, 3, 4, 5]) (sv_asgNH (O := [2, 3, 4]) (O' := [2, 3, 4, 5]) (i := 5) (ps_set (i := 5) sc_numbered.nd (by rfl) (by first | exact Or.inl rfl | exact Or.inr rfl) (evn_lst av_nil)) redN_ev (oset rfl) (by decide)) (svs_cons (O1 := [2, 3, 4, 5]) (sv_forT (O := [2, 3, 4, 5]) (passes_of (by rfl)) (by rfl) (ev_ix (ev_var 0 (pv 0)) (ev_ix (ev_var 3 (pv 3)) (ev_callB o_len (by rfl) T.b_len (by decide +kernel) (av_cons (ev_var 4 (pv 4)) av_nil)))) (bv_tup (by rfl) (bvs_cons (bv_name (pg_name (i := 6) sc_numbered.nd (by rfl) (by first | exact Or.inl rfl | exact Or.inr rfl))) (bvs_cons (bv_name (pg_name (i := 7) sc_numbered.nd (by rfl) (by first | exact Or.inl rfl | exact Or.inr rfl))) bvs_nil))) (ρb := b_numbered1) (svs_weak (O1 := [2, 3, 4, 5]) (O2 := [2, 3, 4, 5]) (svs_cons (O1 := [2, 3, 4, 5]) (sv_if (O := [2, 3, 4, 5]) (O' := [2, 3, 4, 5]) (tv_dnotin (Room.vs hr) (ev_ix (ev_var 1 (pv 1)) (ev_var 7 (pv 7))) (ev_var 2 (pv 2))) (svs_cons (O1 := [2, 3, 4, 5]) (sv_dputF (O := [2, 3, 4, 5]) (i := 2) (ps_dput (by have := Room.vs hr; exact (by have h2 := this; exact Nat.lt_of_le_of_lt (Nat.add_le_add_left (by decide : 1 ≤ 64) _) h2)) (pv 2) (ev_ix (ev_var 1 (pv 1)) (ev_var 7 (pv 7))) (ev_callB o_lenD (by rfl) T.b_len (by decide +kernel) (av_cons (ev_var 2 (pv 2)) av_nil)) (by rfl)) red_ev red_ev (by decide)) (svs_one (sv_appH (O := [2, 3, 4, 5]) (i := 3) (ps_expr (pe_bm PySem.F.plainAttrs_list PySem.F.slot_list_append PySem.F.type_list_append mt_append (pv 3) (pa_cons (ev_var 7 (pv 7)) pa_nil))) red_ev (by decide)))) svs_nil) (svs_one (sv_appF (O := [2, 3, 4, 5]) (i := 5) (ps_expr (pe_bm PySem.F.plainAttrs_list PySem.F.slot_list_append PySem.F.type_list_append mt_append (pv 5) (pa_cons (ev_tup (av_cons (ev_var 6 (pv 6)) (av_cons (ev_dget (Room.vs hr) (ev_var 2 (pv 2)) (ev_ix (ev_var 1 (pv 1)) (ev_var 7 (pv 7)))) av_nil))) pa_nil))) red_ev (by decide)))) (osub rfl) (osub rfl))) (svs_one (sv_appF (O := [2, 3, 4, 5]) (i := 4) (ps_expr (pe_bm PySem.F.plainAttrs_list PySem.F.slot_list_append PySem.F.type_list_append mt_append (pv 4) (pa_cons (ev_callTy o_tup (by rfl) T.b_tuple (by decide +kernel) (av_cons (ev_var 5 (pv 5)) av_nil)) pa_nil))) red_ev (by decide))))) (osub rfl) (osub rfl))) (svs_one (sv_ret (ev_callTy o_tup (by rfl) T.b_tuple (by decide +kernel) (av_cons (ev_var 4 (pv 4)) av_nil))))))))
theorem sc_reduced : FnScope n_reduced p_reduced (defScope st_reduced) := ⟨rfl, rfl, rfl, by decide +kernel, rfl, by decide +kernel, by decide +kernel⟩
theorem ok_reduced (T : Txt K mg) (ad : Option Addr) : FnOk P w K mg base (L2.CX P w) 4 T.d_reduced.f T.d_reduced.fd p_reduced (spV ⟨ad, w⟩ T.xc p_reduced.length r_reduced) :=
  fnV (k := 3) T.d_reduced.F sc_reduced ⟨ad, w⟩ T.xc s_reduced fun cdv A outer s H E hr F => (svs_cons (O1 := []) (sv_if (O := []) (O' := []) (tv_not (tv_val (ev_callC (ok_is_machine T ad) (hr.mono (by decide)) (by rfl) T.d_is_machine.m T.d_is_machine.k T.d_is_machine.b (av_cons (ev_var 0 (pv 0)) av_nil)))) (svs_one (sv_raise (c := 0) (ps_raise (by rfl) (takes_of (by rfl) (by rfl) (by rfl) (by rfl)) (pmk_oex T.x_BadMachine.T T.x_BadMachine.i T.x_BadMachine.t (ok_ini_BadMachine T.x_BadMachine) (hr.mono (by decide)) T.x_BadMachine.b .nil pass0 (by rfl) T.x_BadMachine.m (pa_cons ev_int pa_nil))) red_ev (by rfl))) svs_nil) (svs_one (sv_ret (ev_bin o_add (ev_slice (ev_var 0 (pv 0)) pv_none (pv_some ev_int)) (ev_tup (av_cons (ev_callC (ok_numbered T ad) (hr.mono (by decide)) (by rfl) T.d_numbered.m T.d_numbered.k T.d_numbered.b (av_cons (ev_ix (ev_var 0 (pv 0)) ev_int) (av_cons (ev_callC (ok_classes_of T ad) (hr.mono (by decide)) (by rfl) T.d_classes_of.m T.d_classes_of.k T.d_classes_of.b (av_cons (ev_ix (ev_var 0 (pv 0)) ev_int) av_nil)) av_nil))) av_nil))))))
theorem sc_letters_of : FnScope n_letters_of p_letters_of (defScope st_letters_of) := ⟨rfl, rfl, rfl, by decide +kernel, rfl, by decide +kernel, by decide +kernel⟩
theorem ok_letters_of (T : Txt K mg) (ad : Option Addr) : FnOk P w K mg base (L2.CX P w) 1 T.d_letters_of.f T.d_letters_of.fd p_letters_of (spV ⟨ad, w⟩ T.xc p_letters_of.length r_letters_of) :=
  fnV (k := 0) T.d_letters_of.F sc_letters_of ⟨ad, w⟩ T.xc s_letters_of fun cdv A outer s H E hr F => (svs_cons (O1 := []) (sv_unpH (O := []) (ps_asg (ev_var 0 (pv 0)) (bv_tup (by rfl) (bvs_cons (bv_name (pg_name (i := 2) sc_letters_of.nd (by rfl) (by first | exact Or.inl rfl | exact Or.inr rfl))) (bvs_cons (bv_name (pg_name (i := 3) sc_letters_of.nd (by rfl) (by first | exact Or.inl rfl | exact Or.inr rfl))) (bvs_cons (bv_name (pg_name (i := 4) sc_letters_of.nd (by rfl) (by first | exact Or.inl rfl | exact Or.inr rfl))) (bvs_cons (bv_name (pg_name (i := 5) sc_letters_of.nd (by rfl) (by first | exact Or.inl rfl | exact Or.inr rfl))) bvs_nil)))))) red_ev) (svs_cons (O1 := []) (sv_if (O := []) (O' := []) (tv_cmp (o_eq (Room.vs hr)) (ev_var 2 (pv 2)) ev_str (nomark _)) (svs_one (sv_ret (ev_lc (own := [("given", 6), ("answer", 8), ("to", 9)]) (by rfl) sc_letters_of.nd (iv_enumT (by rfl) T.b_enumerate (av_cons (ev_ix (ev_var 5 (pv 5)) (ev_var 1 (pv 1))) av_nil)) (blkOk_by (N := n_letters_of) (sc := defScope st_letters_of) (own := [("given", 6), ("answer", 8), ("to", 9)]) (by decide +kernel)) (fun _ _ _ _ _ => (bv_tup (by rfl) (bvs_cons (bv_name (pg_name (i := 6) sc_letters_of.nd (by rfl) (by first | exact Or.inl rfl | exact Or.inr rfl))) (bvs_cons (bv_tup (by rfl) (bvs_cons (bv_name (pg_name (i := 8) sc_letters_of.nd (by rfl) (by first | exact Or.inl rfl | exact Or.inr rfl))) (bvs_cons (bv_name (pg_name (i := 9) sc_letters_of.nd (by rfl) (by first | exact Or.inl rfl | exact Or.inr rfl))) bvs_nil))) bvs_nil)))) (fun _ _ _ _ _ => tvs_nil) (fun _ _ _ _ _ => (ev_tup (av_cons (ev_bin o_add (ev_var 6 (pv 6)) (ev_bin o_shl (ev_var 8 (pv 8)) (ev_var 3 (pv 3)))) (av_cons (ev_var 9 (pv 9)) av_nil)))) (sub_tup (subs_cons (sub_name (by decide)) (subs_cons (sub_tup (subs_cons (sub_name (by decide)) (subs_cons (sub_name (by decide)) subs_nil))) subs_nil)))))) svs_nil) (svs_cons (O1 := []) (sv_unpH (O := []) (ps_asg (ev_ix (ev_var 5 (pv 5)) (ev_var 1 (pv 1))) (bv_tup (by rfl) (bvs_cons (bv_name (pg_name (i := 6) sc_letters_of.nd (by rfl) (by first | exact Or.inl rfl | exact Or.inr rfl))) (bvs_cons (bv_name (pg_name (i := 7) sc_letters_of.nd (by rfl) (by first | exact Or.inl rfl | exact Or.inr rfl))) bvs_nil)))) red_ev) (svs_one (sv_ret (ev_lc (own := [("answer", 8), ("to", 9)]) (by rfl) sc_letters_of.nd (iv_enumT (by rfl) T.b_enumerate (av_cons (ev_var 7 (pv 7)) av_nil)) (blkOk_by (N := n_letters_of) (sc := defScope st_letters_of) (own := [("answer", 8), ("to", 9)]) (by decide +kernel)) (fun _ _ _ _ _ => (bv_tup (by rfl) (bvs_cons (bv_name (pg_name (i := 8) sc_letters_of.nd (by rfl) (by first | exact Or.inl rfl | exact Or.inr rfl))) (bvs_cons (bv_name (pg_name (i := 9) sc_letters_of.nd (by rfl) (by first | exact Or.inl rfl | exact Or.inr rfl))) bvs_nil)))) (fun _ _ _ _ _ => tvs_nil) (fun _ _ _ _ _ => (ev_tup (av_cons (ev_bin o_add (ev_var 6 (pv 6)) (ev_bin o_shl (ev_var 8 (pv 8)) (ev_var 3 (pv 3)))) (av_cons (ev_var 9 (pv 9)) av_nil)))) (sub_tup (subs_cons (sub_name (by decide)) (subs_cons (sub_name (by decide)) subs_nil)))))))))
theorem sc_answers : FnScope n_answers p_answers (defScope st_answers) := ⟨rfl, rfl, rfl, by decide +kernel, rfl, by decide +kernel, by decide +kernel⟩
theorem ok_answers (T : Txt K mg) (ad : Option Addr) : FnOk P w K mg base (L2.CX P w) 4 T.d_answers.f T.d_answers.fd p_answers (spV ⟨ad, w⟩ T.xc p_answers.length r_answers) :=
  fnV (k := 3) T.d_answers.F sc_answers ⟨ad, w⟩ T.xc s_answers fun cdv A outer s H E hr F => (svs_cons (O1 := []) (sv_if (O := []) (O' := []) (tv_not (tv_val (ev_callC (ok_is_machine T ad) (hr.mono (by decide)) (by rfl) T.d_is_machine.m T.d_is_machine.k T.d_is_machine.b (av_cons (ev_var 0 (pv 0)) av_nil)))) (svs_one (sv_raise (c := 0) (ps_raise (by rfl) (takes_of (by rfl) (by rfl) (by rfl) (by rfl)) (pmk_oex T.x_BadMachine.T T.x_BadMachine.i T.x_BadMachine.t (ok_ini_BadMachine T.x_BadMachine) (hr.mono (by decide)) T.x_BadMachine.b .nil pass0 (by rfl) T.x_BadMachine.m (pa_cons ev_int pa_nil))) red_ev (by rfl))) svs_nil) (svs_cons (O1 := []) (sv_unpH (O := []) (ps_asg (ev_var 0 (pv 0)) (bv_tup (by rfl) (bvs_cons (bv_name (pg_name (i := 2) sc_answers.nd (by rfl) (by first | exact Or.inl rfl | exact Or.inr rfl))) (bvs_cons (bv_name (pg_name (i := 3) sc_answers.nd (by rfl) (by first | exact Or.inl rfl | exact Or.inr rfl))) (bvs_cons (bv_name (pg_name (i := 2) sc_answers.nd (by rfl) (by first | exact Or.inl rfl | exact Or.inr rfl))) (bvs_cons (bv_name (pg_name (i := 4) sc_answers.nd (by rfl) (by first | exact Or.inl rfl | exact Or.inr rfl))) bvs_nil)))))) red_ev) (svs_cons (O1 := []) (sv_if (O := []) (O' := []) (TW.tv (tw_or (tv_not (tv_val (ev_isa (.inr (.inr (.inr (.inl rfl)))) (by rfl) T.b_isinstance (ev_var 1 (pv 1)) (pe_tyN (by rfl) T.b_tuple (by decide +kernel))))) (tw_or1 (tv_not (tv_val (ev_callB (o_all (by rfl)) (by rfl) T.b_all (by decide +kernel) (av_cons (ev_lc (own := [("one", 9)]) (by rfl) sc_answers.nd (iv_seq (ev_var 1 (pv 1))) (blkOk_by (N := n_answers) (sc := defScope st_answers) (own := [("one", 9)]) (by decide +kernel)) (fun _ _ _ _ _ => (bv_name (pg_name (i := 9) sc_answers.nd (by rfl) (by first | exact Or.inl rfl | exact Or.inr rfl)))) (fun _ _ _ _ _ => tvs_nil) (fun _ _ _ _ _ => (ev_callC (ok_is_integer T ad) (hr.mono (by decide)) (by rfl) T.d_is_integer.m T.d_is_integer.k T.d_is_integer.b (av_cons (ev_var 9 (pv 9)) (av_cons ev_int (av_cons (ev_bin o_sub (ev_bin o_shl ev_int (ev_var 3 (pv 3))) ev_int) av_nil))))) (sub_name (by decide))) av_nil))))))) (svs_one (sv_raise0 (c := 1) (ps_raise0 T.x_BadWord (by rfl) (takes_of (by rfl) (by rfl) (by rfl) (by rfl)) (by rfl)) (by rfl))) svs_nil) (svs_cons (O1 := []) (sv_asgH (O := []) (O' := []) (i := 5) (ps_set (i := 5) sc_answers.nd (by rfl) (by first | exact Or.inl rfl | exact Or.inr rfl) ev_int) red_ev (oset rfl) (by decide)) (svs_cons (O1 := [6]) (sv_asgNH (O := []) (O' := [6]) (i := 6) (ps_set (i := 6) sc_answers.nd (by rfl) (by first | exact Or.inl rfl | exact Or.inr rfl) (evn_lst av_nil)) redN_ev (oset rfl) (by decide)) (svs_cons (O1 := [6]) (sv_forH (O := [6]) (passes_of (by rfl)) (by rfl) (iv_seq (ev_var 1 (pv 1))) (bv_name (pg_name (i := 7) sc_answers.nd (by rfl) (by first | exact Or.inl rfl | exact Or.inr rfl))) (ρb := b_answers2) (svs_weak (O1 := [6]) (O2 := [6]) (svs_cons (O1 := [6]) (sv_unpH (O := [6]) (ps_asg (ev_ix (ev_ix (ev_var 4 (pv 4)) (ev_var 5 (pv 5))) (ev_var 7 (pv 7))) (bv_tup (by rfl) (bvs_cons (bv_name (pg_name (i := 8) sc_answers.nd (by rfl) (by first | exact Or.inl rfl | exact Or.inr rfl))) (bvs_cons (bv_name (pg_name (i := 5) sc_answers.nd (by rfl) (by first | exact Or.inl rfl | exact Or.inr rfl))) bvs_nil)))) red_ev) (svs_one (sv_appH (O := [6]) (i := 6) (ps_expr (pe_bm PySem.F.plainAttrs_list PySem.F.slot_list_append PySem.F.type_list_append mt_append (pv 6) (pa_cons (ev_bin o_add (ev_var 7 (pv 7)) (ev_bin o_shl (ev_var 8 (pv 8)) (ev_var 3 (pv 3)))) pa_nil))) red_ev (by decide)))) (osub rfl) (osub rfl))) (svs_one (sv_ret (ev_callTy o_tup (by rfl) T.b_tuple (by decide +kernel) (av_cons (ev_var 6 (pv 6)) av_nil))))))))))
theorem sc_meets : FnScope n_meets p_meets (defScope st_meets) := ⟨rfl, rfl, rfl, by decide +kernel, rfl, by decide +kernel, by decide +kernel⟩
theorem ok_meets (T : Txt K mg) (ad : Option Addr) : FnOk P w K mg base (L2.CX P w) 4 T.d_meets.f T.d_meets.fd p_meets (spV ⟨ad, w⟩ T.xc p_meets.length r_meets) :=
  fnV (k := 3) T.d_meets.F sc_meets ⟨ad, w⟩ T.xc s_meets fun cdv A outer s H E hr F => (svs_cons (O1 := []) (sv_if (O := []) (O' := []) (tv_not (tv_val (ev_callC (ok_is_machine T ad) (hr.mono (by decide)) (by rfl) T.d_is_machine.m T.d_is_machine.k T.d_is_machine.b (av_cons (ev_var 0 (pv 0)) av_nil)))) (svs_one (sv_raise (c := 0) (ps_raise (by rfl) (takes_of (by rfl) (by rfl) (by rfl) (by rfl)) (pmk_oex T.x_BadMachine.T T.x_BadMachine.i T.x_BadMachine.t (ok_ini_BadMachine T.x_BadMachine) (hr.mono (by decide)) T.x_BadMachine.b .nil pass0 (by rfl) T.x_BadMachine.m (pa_cons ev_int pa_nil))) red_ev (by rfl))) svs_nil) (svs_cons (O1 := []) (sv_if (O := []) (O' := []) (TW.tv (tw_or (tv_not (tv_val (ev_callC (ok_is_breaker T ad) (hr.mono (by decide)) (by rfl) T.d_is_breaker.m T.d_is_breaker.k T.d_is_breaker.b (av_cons (ev_var 1 (pv 1)) av_nil)))) (tw_or1 (tv_cmp (o_ne (Room.vs hr)) (ev_slice (ev_var 1 (pv 1)) (pv_some ev_int) (pv_some ev_int)) (ev_slice (ev_var 0 (pv 0)) (pv_some ev_int) (pv_some ev_int)) (nomark _))))) (svs_one (sv_raise (c := 0) (ps_raise (by rfl) (takes_of (by rfl) (by rfl) (by rfl) (by rfl)) (pmk_oex T.x_BadMachine.T T.x_BadMachine.i T.x_BadMachine.t (ok_ini_BadMachine T.x_BadMachine) (hr.mono (by decide)) T.x_BadMachine.b .nil pass0 (by rfl) T.x_BadMachine.m (pa_cons ev_int pa_nil))) red_ev (by rfl))) svs_nil) (svs_cons (O1 := []) (sv_asgH (O := []) (O' := []) (i := 2) (ps_set (i := 2) sc_meets.nd (by rfl) (by first | exact Or.inl rfl | exact Or.inr rfl) (ev_ix (ev_var 0 (pv 0)) ev_int)) red_ev (oset rfl) (by decide)) (svs_cons (O1 := []) (sv_asgH (O := []) (O' := []) (i := 3) (ps_set (i := 3) sc_meets.nd (by rfl) (by first | exact Or.inl rfl | exact Or.inr rfl) (ev_tup (av_cons ev_int (av_cons ev_int av_nil)))) red_ev (oset rfl) (by decide)) (svs_cons (O1 := [4]) (sv_asgNH (O := []) (O' := [4]) (i := 4) (ps_set (i := 4) sc_meets.nd (by rfl) (by first | exact Or.inl rfl | exact Or.inr rfl) evn_newT) redN_ev (oset rfl) (by decide)) (svs_cons (O1 := [4]) (sv_asgH (O := [4]) (O' := [4]) (i := 5) (ps_set (i := 5) sc_meets.nd (by rfl) (by first | exact Or.inl rfl | exact Or.inr rfl) (ev_tup av_nil)) red_ev (oset rfl) (by decide)) (svs_cons (O1 := [4]) (sv_while (O := [4]) (passes_of (by rfl)) (tv_dnotin (Room.vs hr) (ev_var 3 (pv 3)) (ev_var 4 (pv 4))) (ρb := b_meets1) (svs_weak (O1 := [4]) (O2 := [4]) (svs_cons (O1 := [4]) (sv_dputF (O := [4]) (i := 4) (ps_dput (by have := Room.vs hr; exact (by have h2 := this; exact Nat.lt_of_le_of_lt (Nat.add_le_add_left (by decide : 1 ≤ 64) _) h2)) (pv 4) (ev_var 3 (pv 3)) (ev_callB o_len (by rfl) T.b_len (by decide +kernel) (av_cons (ev_var 5 (pv 5)) av_nil)) (by rfl)) red_ev red_ev (by decide)) (svs_cons (O1 := [4]) (sv_unpH (O := [4]) (ps_asg (ev_ix (ev_ix (ev_var 1 (pv 1)) ev_int) (ev_ix (ev_var 3 (pv 3)) ev_int)) (bv_tup (by rfl) (bvs_cons (bv_name (pg_name (i := 6) sc_meets.nd (by rfl) (by first | exact Or.inl rfl | exact Or.inr rfl))) (bvs_cons (bv_name (pg_name (i := 7) sc_meets.nd (by rfl) (by first | exact Or.inl rfl | exact Or.inr rfl))) bvs_nil)))) red_ev) (svs_cons (O1 := [4]) (sv_unpH (O := [4]) (ps_asg (ev_ix (ev_ix (ev_ix (ev_var 0 (pv 0)) ev_int) (ev_ix (ev_var 3 (pv 3)) ev_int)) (ev_var 6 (pv 6))) (bv_tup (by rfl) (bvs_cons (bv_name (pg_name (i := 8) sc_meets.nd (by rfl) (by first | exact Or.inl rfl | exact Or.inr rfl))) (bvs_cons (bv_name (pg_name (i := 9) sc_meets.nd (by rfl) (by first | exact Or.inl rfl | exact Or.inr rfl))) bvs_nil)))) red_ev) (svs_cons (O1 := [4]) (sv_asgH (O := [4]) (O' := [4]) (i := 5) (ps_set (i := 5) sc_meets.nd (by rfl) (by first | exact Or.inl rfl | exact Or.inr rfl) (ev_bin o_add (ev_var 5 (pv 5)) (ev_tup (av_cons (ev_bin o_add (ev_var 6 (pv 6)) (ev_bin o_shl (ev_var 8 (pv 8)) (ev_var 2 (pv 2)))) av_nil)))) red_ev (oset rfl) (by decide)) (svs_one (sv_asgH (O := [4]) (O' := [4]) (i := 3) (ps_set (i := 3) sc_meets.nd (by rfl) (by first | exact Or.inl rfl | exact Or.inr rfl) (ev_tup (av_cons (ev_var 9 (pv 9)) (av_cons (ev_ix (ev_var 7 (pv 7)) (ev_var 8 (pv 8))) av_nil)))) red_ev (oset rfl) (by decide))))))) (osub rfl) (osub rfl))) (svs_one (sv_ret (ev_tup (av_cons ev_str (av_cons (ev_slice (ev_var 5 (pv 5)) pv_none (pv_some (ev_dget (Room.vs hr) (ev_var 4 (pv 4)) (ev_var 3 (pv 3))))) (av_cons (ev_slice (ev_var 5 (pv 5)) (pv_some (ev_dget (Room.vs hr) (ev_var 4 (pv 4)) (ev_var 3 (pv 3)))) pv_none) av_nil)))))))))))))
theorem sc_look_at : FnScope n_look_at p_look_at (defScope st_look_at) := ⟨rfl, rfl, rfl, by decide +kernel, rfl, by decide +kernel, by decide +kernel⟩
theorem ok_look_at (T : Txt K mg) (ad : Option Addr) : FnOk P w K mg base (L2.CX P w) 4 T.d_look_at.f T.d_look_at.fd p_look_at (spV ⟨ad, w⟩ T.xc p_look_at.length r_look_at) :=
  fnV (k := 3) T.d_look_at.F sc_look_at ⟨ad, w⟩ T.xc s_look_at fun cdv A outer s H E hr F => (svs_weak (O1 := []) (O2 := []) (svs_one (sv_if (O := []) (O' := []) (TW.tv (tw_and (tv_not (tv_val (ev_callC (ok_is_machine T ad) (hr.mono (by decide)) (by rfl) T.d_is_machine.m T.d_is_machine.k T.d_is_machine.b (av_cons (ev_var 0 (pv 0)) av_nil)))) (tw_and1 (tv_not (tv_val (ev_callC (ok_is_breaker T ad) (hr.mono (by decide)) (by rfl) T.d_is_breaker.m T.d_is_breaker.k T.d_is_breaker.b (av_cons (ev_var 0 (pv 0)) av_nil))))))) (svs_one (sv_raise (c := 0) (ps_raise (by rfl) (takes_of (by rfl) (by rfl) (by rfl) (by rfl)) (pmk_oex T.x_BadMachine.T T.x_BadMachine.i T.x_BadMachine.t (ok_ini_BadMachine T.x_BadMachine) (hr.mono (by decide)) T.x_BadMachine.b .nil pass0 (by rfl) T.x_BadMachine.m (pa_cons ev_int pa_nil))) red_ev (by rfl))) svs_nil)) (osub rfl) (osub rfl))
theorem sc_place_behind : FnScope n_place_behind p_place_behind (defScope st_place_behind) := ⟨rfl, rfl, rfl, by decide +kernel, rfl, by decide +kernel, by decide +kernel⟩
theorem ok_place_behind (T : Txt K mg) (ad : Option Addr) : FnOk P w K mg base (L2.CX P w) 2 T.d_place_behind.f T.d_place_behind.fd p_place_behind (spV ⟨ad, w⟩ T.xc p_place_behind.length r_place_behind) :=
  fnV (k := 1) T.d_place_behind.F sc_place_behind ⟨ad, w⟩ T.xc s_place_behind fun cdv A outer s H E hr F => (svs_cons (O1 := []) (sv_forH (O := []) (passes_of (by rfl)) (by rfl) (iv_seq (ev_var 2 (pv 2))) (bv_name (pg_name (i := 3) sc_place_behind.nd (by rfl) (by first | exact Or.inl rfl | exact Or.inr rfl))) (ρb := b_place_behind2) (svs_weak (O1 := []) (O2 := []) (svs_cons (O1 := []) (sv_asgH (O := []) (O' := []) (i := 4) (ps_setLc (i := 4) (own := [("one", 5), ("to", 6)]) (by rfl) sc_place_behind.nd (by rfl) (by rfl) (sw_true (by rfl) (by rfl) (by rfl) (by decide +kernel)) (iv_seq (ev_callC (ok_letters_of T ad) (hr.mono (by decide)) (by rfl) T.d_letters_of.m T.d_letters_of.k T.d_letters_of.b (av_cons (ev_var 0 (pv 0)) (av_cons (ev_var 1 (pv 1)) av_nil)))) (blkOk_by (N := n_place_behind) (sc := defScope st_place_behind) (own := [("one", 5), ("to", 6)]) (by decide +kernel)) (fun _ _ _ _ _ => (bv_tup (by rfl) (bvs_cons (bv_name (pg_name (i := 5) sc_place_behind.nd (by rfl) (by first | exact Or.inl rfl | exact Or.inr rfl))) (bvs_cons (bv_name (pg_name (i := 6) sc_place_behind.nd (by rfl) (by first | exact Or.inl rfl | exact Or.inr rfl))) bvs_nil)))) (fun _ _ _ _ _ => (tvs_one (tv_cmp (o_eq (Room.vs hr)) (ev_var 5 (pv 5)) (ev_var 3 (pv 3)) (nomark _)))) (fun _ _ _ _ _ => (ev_var 6 (pv 6)))) (red_lc (sub_tup (subs_cons (sub_name (by decide)) (subs_cons (sub_name (by decide)) subs_nil)))) (oset rfl) (by decide)) (svs_cons (O1 := []) (sv_if (O := []) (O' := []) (tv_cmp (o_eq (Room.vs hr)) (ev_callB o_len (by rfl) T.b_len (by decide +kernel) (av_cons (ev_var 4 (pv 4)) av_nil)) ev_int (nomark _)) (svs_one (sv_ret ev_non)) svs_nil) (svs_one (sv_asgH (O := []) (O' := []) (i := 1) (ps_set (i := 1) sc_place_behind.nd (by rfl) (by first | exact Or.inl rfl | exact Or.inr rfl) (ev_ix (ev_var 4 (pv 4)) ev_int)) red_ev (oset rfl) (by decide))))) (osub rfl) (osub rfl))) (svs_one (sv_ret (ev_var 1 (pv 1)))))
theorem sc_follows : FnScope n_follows p_follows (defScope st_follows) := ⟨rfl, rfl, rfl, by decide +kernel, rfl, by decide +kernel, by decide +kernel⟩
theorem ok_follows (T : Txt K mg) (ad : Option Addr) : FnOk P w K mg base (L2.CX P w) 5 T.d_follows.f T.d_follows.fd p_follows (spV ⟨ad, w⟩ T.xc p_follows.length r_follows) :=
  fnV (k := 4) T.d_follows.F sc_follows ⟨ad, w⟩ T.xc s_follows fun cdv A outer s H E hr F => (svs_cons (O1 := []) (sv_expr (ev_callX (ok_look_at T ad) (takes_of (by rfl) (by rfl) (by rfl) (by rfl)) (hr.mono (by decide)) (by rfl) T.d_look_at.m T.d_look_at.k T.d_look_at.b (av_cons (ev_var 0 (pv 0)) av_nil))) (svs_cons (O1 := []) (sv_if (O := []) (O' := []) (tv_not (tv_val (ev_callC (ok_is_word T ad) (hr.mono (by decide)) (by rfl) T.d_is_word.m T.d_is_word.k T.d_is_word.b (av_cons (ev_bin o_add (ev_ix (ev_var 0 (pv 0)) ev_int) (ev_ix (ev_var 0 (pv 0)) ev_int)) (av_cons (ev_var 1 (pv 1)) av_nil))))) (svs_one (sv_raise0 (c := 1) (ps_raise0 T.x_BadWord (by rfl) (takes_of (by rfl) (by rfl) (by rfl) (by rfl)) (by rfl)) (by rfl))) svs_nil) (svs_one (sv_ret (ev_cmp o_notN (ev_callC (ok_place_behind T ad) (hr.mono (by decide)) (by rfl) T.d_place_behind.m T.d_place_behind.k T.d_place_behind.b (av_cons (ev_var 0 (pv 0)) (av_cons ev_int (av_cons (ev_var 1 (pv 1)) av_nil)))) ev_non (nomark _))))))
theorem sc_follows_lasso : FnScope n_follows_lasso p_follows_lasso (defScope st_follows_lasso) := ⟨rfl, rfl, rfl, by decide +kernel, rfl, by decide +kernel, by decide +kernel⟩
theorem ok_follows_lasso (T : Txt K mg) (ad : Option Addr) : FnOk P w K mg base (L2.CX P w) 5 T.d_follows_lasso.f T.d_follows_lasso.fd p_follows_lasso (spV ⟨ad, w⟩ T.xc p_follows_lasso.length r_follows_lasso) :=
  fnV (k := 4) T.d_follows_lasso.F sc_follows_lasso ⟨ad, w⟩ T.xc s_follows_lasso fun cdv A outer s H E hr F => (svs_cons (O1 := []) (sv_expr (ev_callX (ok_look_at T ad) (takes_of (by rfl) (by rfl) (by rfl) (by rfl)) (hr.mono (by decide)) (by rfl) T.d_look_at.m T.d_look_at.k T.d_look_at.b (av_cons (ev_var 0 (pv 0)) av_nil))) (svs_cons (O1 := []) (sv_if (O := []) (O' := []) (tv_not (tv_val (ev_callC (ok_is_lasso T ad) (hr.mono (by decide)) (by rfl) T.d_is_lasso.m T.d_is_lasso.k T.d_is_lasso.b (av_cons (ev_bin o_add (ev_ix (ev_var 0 (pv 0)) ev_int) (ev_ix (ev_var 0 (pv 0)) ev_int)) (av_cons (ev_var 1 (pv 1)) av_nil))))) (svs_one (sv_raise0 (c := 1) (ps_raise0 T.x_BadWord (by rfl) (takes_of (by rfl) (by rfl) (by rfl) (by rfl)) (by rfl)) (by rfl))) svs_nil) (svs_cons (O1 := []) (sv_asgH (O := []) (O' := []) (i := 2) (ps_set (i := 2) sc_follows_lasso.nd (by rfl) (by first | exact Or.inl rfl | exact Or.inr rfl) (ev_callC (ok_place_behind T ad) (hr.mono (by decide)) (by rfl) T.d_place_behind.m T.d_place_behind.k T.d_place_behind.b (av_cons (ev_var 0 (pv 0)) (av_cons ev_int (av_cons (ev_ix (ev_var 1 (pv 1)) ev_int) av_nil))))) red_ev (oset rfl) (by decide)) (svs_cons (O1 := [3]) (sv_asgNH (O := []) (O' := [3]) (i := 3) (ps_set (i := 3) sc_follows_lasso.nd (by rfl) (by first | exact Or.inl rfl | exact Or.inr rfl) evn_newK) redN_ev (oset rfl) (by decide)) (svs_cons (O1 := [3]) (sv_while (O := [3]) (passes_of (by rfl)) (TW.tv (tw_and (tv_cmp o_notN (ev_var 2 (pv 2)) ev_non (nomark _)) (tw_and1 (tv_dnotin (Room.vs hr) (ev_var 2 (pv 2)) (ev_var 3 (pv 3)))))) (ρb := b_follows_lasso1) (svs_weak (O1 := [3]) (O2 := [3]) (svs_cons (O1 := [3]) (sv_dputF (O := [3]) (i := 3) (ps_dput (by have := Room.vs hr; exact (by have h2 := this; exact Nat.lt_of_le_of_lt (Nat.add_le_add_left (by decide : 1 ≤ 64) _) h2)) (pv 3) (ev_var 2 (pv 2)) ev_bl (by rfl)) red_ev red_ev (by decide)) (svs_one (sv_asgH (O := [3]) (O' := [3]) (i := 2) (ps_set (i := 2) sc_follows_lasso.nd (by rfl) (by first | exact Or.inl rfl | exact Or.inr rfl) (ev_callC (ok_place_behind T ad) (hr.mono (by decide)) (by rfl) T.d_place_behind.m T.d_place_behind.k T.d_place_behind.b (av_cons (ev_var 0 (pv 0)) (av_cons (ev_var 2 (pv 2)) (av_cons (ev_ix (ev_var 1 (pv 1)) ev_int) av_nil))))) red_ev (oset rfl) (by decide)))) (osub rfl) (osub rfl))) (svs_one (sv_ret (ev_cmp o_notN (ev_var 2 (pv 2)) ev_non (nomark _)))))))))
theorem sc__law_draw : FnScope n__law_draw p__law_draw (defScope st__law_draw) := ⟨rfl, rfl, rfl, by decide +kernel, rfl, by decide +kernel, by decide +kernel⟩
theorem ok__law_draw (T : Txt K mg) (ad : Option Addr) : FnOk P w K mg base (L2.CX P w) 1 T.d__law_draw.f T.d__law_draw.fd p__law_draw (spV ⟨ad, w⟩ T.xc p__law_draw.length r__law_draw) :=
  fnV (k := 0) T.d__law_draw.F sc__law_draw ⟨ad, w⟩ T.xc s__law_draw fun cdv A outer s H E hr F => (svs_cons (O1 := []) (sv_if (O := []) (O' := []) (tv_cmp (o_eq (Room.vs hr)) (ev_bagix (ev_var 0 (pv 0))) ev_int (nomark _)) (svs_cons (O1 := []) (sv_asgH (O := []) (O' := []) (i := 2) (ps_set (i := 2) sc__law_draw.nd (by rfl) (by first | exact Or.inl rfl | exact Or.inr rfl) (ev_bin o_mod (ev_callTy o_int (by rfl) T.b_int (by decide +kernel) (av_cons (ev_bin o_add (ev_bin o_add (ev_bin o_mul2 (ev_bagix (ev_var 0 (pv 0))) ev_int) (ev_bin o_mul2 (ev_bagix (ev_var 0 (pv 0))) ev_int)) ev_int) av_nil)) ev_int)) red_ev (oset rfl) (by decide)) (svs_cons (O1 := []) (sv_bag (ps_asg (ev_bin o_add (ev_bin o_mul2 (ev_var 2 (pv 2)) ev_int) (ev_bin o_mod (ev_callTy o_int (by rfl) T.b_int (by decide +kernel) (av_cons (ev_bin o_add (ev_bin o_mul2 (ev_var 2 (pv 2)) (ev_var 2 (pv 2))) (ev_bin o_mul2 (ev_bagix (ev_var 0 (pv 0))) ev_int)) av_nil)) ev_int)) (pg_sub (pv 0) pe_int set_list)) red_ev) (svs_one (sv_bag (ps_asg (ev_var 2 (pv 2)) (pg_sub (pv 0) pe_int set_list)) red_ev)))) svs_nil) (svs_cons (O1 := []) (sv_asgH (O := []) (O' := []) (i := 3) (ps_set (i := 3) sc__law_draw.nd (by rfl) (by first | exact Or.inl rfl | exact Or.inr rfl) (ev_bagix (ev_var 0 (pv 0)))) red_ev (oset rfl) (by decide)) (svs_cons (O1 := []) (sv_bag (ps_asg (ev_bin o_div (ev_var 3 (pv 3)) (ev_var 1 (pv 1))) (pg_sub (pv 0) pe_int set_list)) red_ev) (svs_one (sv_ret (ev_bin o_mod (ev_callTy o_int (by rfl) T.b_int (by decide +kernel) (av_cons (ev_var 3 (pv 3)) av_nil)) (ev_var 1 (pv 1))))))))
theorem sc__law_machine : FnScope n__law_machine p__law_machine (defScope st__law_machine) := ⟨rfl, rfl, rfl, by decide +kernel, rfl, by decide +kernel, by decide +kernel⟩
theorem ok__law_machine (T : Txt K mg) (ad : Option Addr) : FnOk P w K mg base (L2.CX P w) 2 T.d__law_machine.f T.d__law_machine.fd p__law_machine (spV ⟨ad, w⟩ T.xc p__law_machine.length r__law_machine) :=
  fnV (k := 1) T.d__law_machine.F sc__law_machine ⟨ad, w⟩ T.xc s__law_machine fun cdv A outer s H E hr F => (svs_cons (O1 := []) (sv_asgH (O := []) (O' := []) (i := 4) (ps_set (i := 4) sc__law_machine.nd (by rfl) (by first | exact Or.inl rfl | exact Or.inr rfl) (ev_bin o_add ev_int (ev_callC (ok__law_draw T ad) (hr.mono (by decide)) (by rfl) T.d__law_draw.m T.d__law_draw.k T.d__law_draw.b (av_cons (ev_var 0 (pv 0)) (av_cons (ev_var 3 (pv 3)) av_nil))))) red_ev (oset rfl) (by decide)) (svs_cons (O1 := [5]) (sv_asgNH (O := []) (O' := [5]) (i := 5) (ps_set (i := 5) sc__law_machine.nd (by rfl) (by first | exact Or.inl rfl | exact Or.inr rfl) (evn_lst av_nil)) redN_ev (oset rfl) (by decide)) (svs_cons (O1 := [5]) (sv_forH (O := [5]) (passes_of (by rfl)) (by rfl) (iv_range1 (by rfl) T.b_range (av_cons (ev_var 4 (pv 4)) av_nil)) (bv_name (pg_name (i := 6) sc__law_machine.nd (by rfl) (by first | exact Or.inl rfl | exact Or.inr rfl))) (ρb := b_law_machine2) (svs_weak (O1 := [5]) (O2 := [5]) (svs_one (sv_appH (O := [5]) (i := 5) (ps_expr (pe_bm PySem.F.plainAttrs_list PySem.F.slot_list_append PySem.F.type_list_append mt_append (pv 5) (pa_cons (ev_callTy o_tup (by rfl) T.b_tuple (by decide +kernel) (av_cons (ev_lc (own := [("given", 7)]) (by rfl) sc__law_machine.nd (iv_range1 (by rfl) T.b_range (av_cons (ev_bin o_shl ev_int (ev_var 1 (pv 1))) av_nil)) (blkOk_by (N := n__law_machine) (sc := defScope st__law_machine) (own := [("given", 7)]) (by decide +kernel)) (fun _ _ _ _ _ => (bv_name (pg_name (i := 7) sc__law_machine.nd (by rfl) (by first | exact Or.inl rfl | exact Or.inr rfl)))) (fun _ _ _ _ _ => tvs_nil) (fun _ _ _ _ _ => (ev_tup (av_cons (ev_callC (ok__law_draw T ad) (hr.mono (by decide)) (by rfl) T.d__law_draw.m T.d__law_draw.k T.d__law_draw.b (av_cons (ev_var 0 (pv 0)) (av_cons (ev_bin o_shl ev_int (ev_var 2 (pv 2))) av_nil))) (av_cons (ev_callC (ok__law_draw T ad) (hr.mono (by decide)) (by rfl) T.d__law_draw.m T.d__law_draw.k T.d__law_draw.b (av_cons (ev_var 0 (pv 0)) (av_cons (ev_var 4 (pv 4)) av_nil))) av_nil)))) (sub_name (by decide))) av_nil)) pa_nil))) red_ev (by decide))) (osub rfl) (osub rfl))) (svs_one (sv_ret (ev_tup (av_cons ev_str (av_cons (ev_var 1 (pv 1)) (av_cons (ev_var 2 (pv 2)) (av_cons (ev_callTy o_tup (by rfl) T.b_tuple (by decide +kernel) (av_cons (ev_var 5 (pv 5)) av_nil)) av_nil))))))))))
theorem sc__law_breaker : FnScope n__law_breaker p__law_breaker (defScope st__law_breaker) := ⟨rfl, rfl, rfl, by decide +kernel, rfl, by decide +kernel, by decide +kernel⟩
theorem ok__law_breaker (T : Txt K mg) (ad : Option Addr) : FnOk P w K mg base (L2.CX P w) 2 T.d__law_breaker.f T.d__law_breaker.fd p__law_breaker (spV ⟨ad, w⟩ T.xc p__law_breaker.length r__law_breaker) :=
  fnV (k := 1) T.d__law_breaker.F sc__law_breaker ⟨ad, w⟩ T.xc s__law_breaker fun cdv A outer s H E hr F => (svs_cons (O1 := []) (sv_asgH (O := []) (O' := []) (i := 3) (ps_set (i := 3) sc__law_breaker.nd (by rfl) (by first | exact Or.inl rfl | exact Or.inr rfl) (ev_bin o_add ev_int (ev_callC (ok__law_draw T ad) (hr.mono (by decide)) (by rfl) T.d__law_draw.m T.d__law_draw.k T.d__law_draw.b (av_cons (ev_var 0 (pv 0)) (av_cons ev_int av_nil))))) red_ev (oset rfl) (by decide)) (svs_cons (O1 := [4]) (sv_asgNH (O := []) (O' := [4]) (i := 4) (ps_set (i := 4) sc__law_breaker.nd (by rfl) (by first | exact Or.inl rfl | exact Or.inr rfl) (evn_lst av_nil)) redN_ev (oset rfl) (by decide)) (svs_cons (O1 := [4]) (sv_forH (O := [4]) (passes_of (by rfl)) (by rfl) (iv_range1 (by rfl) T.b_range (av_cons (ev_var 3 (pv 3)) av_nil)) (bv_name (pg_name (i := 5) sc__law_breaker.nd (by rfl) (by first | exact Or.inl rfl | exact Or.inr rfl))) (ρb := b_law_breaker2) (svs_weak (O1 := [4]) (O2 := [4]) (svs_one (sv_appH (O := [4]) (i := 4) (ps_expr (pe_bm PySem.F.plainAttrs_list PySem.F.slot_list_append PySem.F.type_list_append mt_append (pv 4) (pa_cons (ev_tup (av_cons (ev_callC (ok__law_draw T ad) (hr.mono (by decide)) (by rfl) T.d__law_draw.m T.d__law_draw.k T.d__law_draw.b (av_cons (ev_var 0 (pv 0)) (av_cons (ev_bin o_shl ev_int (ev_var 1 (pv 1))) av_nil))) (av_cons (ev_callTy o_tup (by rfl) T.b_tuple (by decide +kernel) (av_cons (ev_lc (own := [("answer", 6)]) (by rfl) sc__law_breaker.nd (iv_range1 (by rfl) T.b_range (av_cons (ev_bin o_shl ev_int (ev_var 2 (pv 2))) av_nil)) (blkOk_by (N := n__law_breaker) (sc := defScope st__law_breaker) (own := [("answer", 6)]) (by decide +kernel)) (fun _ _ _ _ _ => (bv_name (pg_name (i := 6) sc__law_breaker.nd (by rfl) (by first | exact Or.inl rfl | exact Or.inr rfl)))) (fun _ _ _ _ _ => tvs_nil) (fun _ _ _ _ _ => (ev_callC (ok__law_draw T ad) (hr.mono (by decide)) (by rfl) T.d__law_draw.m T.d__law_draw.k T.d__law_draw.b (av_cons (ev_var 0 (pv 0)) (av_cons (ev_var 3 (pv 3)) av_nil)))) (sub_name (by decide))) av_nil)) av_nil))) pa_nil))) red_ev (by decide))) (osub rfl) (osub rfl))) (svs_one (sv_ret (ev_tup (av_cons ev_str (av_cons (ev_var 1 (pv 1)) (av_cons (ev_var 2 (pv 2)) (av_cons (ev_callTy o_tup (by rfl) T.b_tuple (by decide +kernel) (av_cons (ev_var 4 (pv 4)) av_nil)) av_nil))))))))))
theorem sc__law_next : FnScope n__law_next p__law_next (defScope st__law_next) := ⟨rfl, rfl, rfl, by decide +kernel, rfl, by decide +kernel, by decide +kernel⟩
theorem ok__law_next (T : Txt K mg) (ad : Option Addr) : FnOk P w K mg base (L2.CX P w) 1 T.d__law_next.f T.d__law_next.fd p__law_next (spV ⟨ad, w⟩ T.xc p__law_next.length r__law_next) :=
  fnV (k := 0) T.d__law_next.F sc__law_next ⟨ad, w⟩ T.xc s__law_next fun cdv A outer s H E hr F => (svs_cons (O1 := []) (sv_unpH (O := []) (ps_asg (ev_var 0 (pv 0)) (bv_tup (by rfl) (bvs_cons (bv_name (pg_name (i := 3) sc__law_next.nd (by rfl) (by first | exact Or.inl rfl | exact Or.inr rfl))) (bvs_cons (bv_name (pg_name (i := 4) sc__law_next.nd (by rfl) (by first | exact Or.inl rfl | exact Or.inr rfl))) (bvs_cons (bv_name (pg_name (i := 5) sc__law_next.nd (by rfl) (by first | exact Or.inl rfl | exact Or.inr rfl))) (bvs_cons (bv_name (pg_name (i := 6) sc__law_next.nd (by rfl) (by first | exact Or.inl rfl | exact Or.inr rfl))) bvs_nil)))))) red_ev) (svs_cons (O1 := []) (sv_asgH (O := []) (O' := []) (i := 7) (ps_set (i := 7) sc__law_next.nd (by rfl) (by first | exact Or.inl rfl | exact Or.inr rfl) (ev_bin o_band (ev_var 2 (pv 2)) (ev_bin o_sub (ev_bin o_shl ev_int (ev_var 4 (pv 4))) ev_int))) red_ev (oset rfl) (by decide)) (svs_cons (O1 := []) (sv_asgH (O := []) (O' := []) (i := 8) (ps_set (i := 8) sc__law_next.nd (by rfl) (by first | exact Or.inl rfl | exact Or.inr rfl) (ev_bin o_shr (ev_var 2 (pv 2)) (ev_var 4 (pv 4)))) red_ev (oset rfl) (by decide)) (svs_cons (O1 := []) (sv_if (O := []) (O' := []) (tv_cmp (o_eq (Room.vs hr)) (ev_var 3 (pv 3)) ev_str (nomark _)) (svs_cons (O1 := []) (sv_unpH (O := []) (ps_asg (ev_ix (ev_ix (ev_var 6 (pv 6)) (ev_var 1 (pv 1))) (ev_var 7 (pv 7))) (bv_tup (by rfl) (bvs_cons (bv_name (pg_name (i := 9) sc__law_next.nd (by rfl) (by first | exact Or.inl rfl | exact Or.inr rfl))) (bvs_cons (bv_name (pg_name (i := 10) sc__law_next.nd (by rfl) (by first | exact Or.inl rfl | exact Or.inr rfl))) bvs_nil)))) red_ev) (svs_one (sv_ret (ev_ix (ev_lst (av_cons ev_non (av_cons (ev_var 10 (pv 10)) av_nil))) (ev_callTy o_int (by rfl) T.b_int (by decide +kernel) (av_cons (ev_cmp (o_eq (Room.vs hr)) (ev_var 9 (pv 9)) (ev_var 8 (pv 8)) (nomark _)) av_nil)))))) svs_nil) (svs_cons (O1 := []) (sv_unpH (O := []) (ps_asg (ev_ix (ev_var 6 (pv 6)) (ev_var 1 (pv 1))) (bv_tup (by rfl) (bvs_cons (bv_name (pg_name (i := 9) sc__law_next.nd (by rfl) (by first | exact Or.inl rfl | exact Or.inr rfl))) (bvs_cons (bv_name (pg_name (i := 11) sc__law_next.nd (by rfl) (by first | exact Or.inl rfl | exact Or.inr rfl))) bvs_nil)))) red_ev) (svs_one (sv_ret (ev_ix (ev_lst (av_cons ev_non (av_cons (ev_ix (ev_var 11 (pv 11)) (ev_var 8 (pv 8))) av_nil))) (ev_callTy o_int (by rfl) T.b_int (by decide +kernel) (av_cons (ev_cmp (o_eq (Room.vs hr)) (ev_var 9 (pv 9)) (ev_var 7 (pv 7)) (nomark _)) av_nil))))))))))
theorem sc__law_follows : FnScope n__law_follows p__law_follows (defScope st__law_follows) := ⟨rfl, rfl, rfl, by decide +kernel, rfl, by decide +kernel, by decide +kernel⟩
theorem ok__law_follows (T : Txt K mg) (ad : Option Addr) : FnOk P w K mg base (L2.CX P w) 2 T.d__law_follows.f T.d__law_follows.fd p__law_follows (spV ⟨ad, w⟩ T.xc p__law_follows.length r__law_follows) :=
  fnV (k := 1) T.d__law_follows.F sc__law_follows ⟨ad, w⟩ T.xc s__law_follows fun cdv A outer s H E hr F => (svs_cons (O1 := []) (sv_asgH (O := []) (O' := []) (i := 2) (ps_set (i := 2) sc__law_follows.nd (by rfl) (by first | exact Or.inl rfl | exact Or.inr rfl) ev_int) red_ev (oset rfl) (by decide)) (svs_cons (O1 := []) (sv_forH (O := []) (passes_of (by rfl)) (by rfl) (iv_seq (ev_var 1 (pv 1))) (bv_name (pg_name (i := 3) sc__law_follows.nd (by rfl) (by first | exact Or.inl rfl | exact Or.inr rfl))) (ρb := b_law_follows1) (svs_weak (O1 := []) (O2 := []) (svs_one (sv_if (O := []) (O' := []) (tv_cmp o_notN (ev_var 2 (pv 2)) ev_non (nomark _)) (svs_one (sv_asgH (O := []) (O' := []) (i := 2) (ps_set (i := 2) sc__law_follows.nd (by rfl) (by first | exact Or.inl rfl | exact Or.inr rfl) (ev_callC (ok__law_next T ad) (hr.mono (by decide)) (by rfl) T.d__law_next.m T.d__law_next.k T.d__law_next.b (av_cons (ev_var 0 (pv 0)) (av_cons (ev_var 2 (pv 2)) (av_cons (ev_var 3 (pv 3)) av_nil))))) red_ev (oset rfl) (by decide))) svs_nil)) (osub rfl) (osub rfl))) (svs_one (sv_ret (ev_cmp o_notN (ev_var 2 (pv 2)) ev_non (nomark _))))))
theorem sc__law_alike : FnScope n__law_alike p__law_alike (defScope st__law_alike) := ⟨rfl, rfl, rfl, by decide +kernel, rfl, by decide +kernel, by decide +kernel⟩
theorem ok__law_alike (T : Txt K mg) (ad : Option Addr) : ∀ n : Nat, FnOk P w K mg base (L2.CX P w) (n + 1) T.d__law_alike.f T.d__law_alike.fd p__law_alike (spV ⟨ad, w⟩ T.xc p__law_alike.length (r__law_alike n))
  | 0 => fnBad
  | n + 1 => by
    have ih := ok__law_alike T ad n
    exact fnV (k := n + 1) T.d__law_alike.F sc__law_alike ⟨ad, w⟩ T.xc (s__law_alike (r__law_alike n)) fun cdv A outer s H E hr F => (svs_cons (O1 := []) (sv_if (O := []) (O' := []) (tv_cmp (o_eq (Room.vs hr)) (ev_var 3 (pv 3)) ev_int (nomark _)) (svs_one (sv_ret ev_bl)) svs_nil) (svs_cons (O1 := []) (sv_forH (O := []) (passes_of (by rfl)) (by rfl) (iv_range1 (by rfl) T.b_range (av_cons (ev_bin o_shl ev_int (ev_ix (ev_var 0 (pv 0)) ev_int)) av_nil)) (bv_name (pg_name (i := 4) sc__law_alike.nd (by rfl) (by first | exact Or.inl rfl | exact Or.inr rfl))) (ρb := (b_law_alike1 (r__law_alike n))) (svs_weak (O1 := []) (O2 := []) (svs_cons (O1 := []) (sv_unpH (O := []) (ps_asg (ev_ix (ev_ix (ev_ix (ev_var 0 (pv 0)) ev_int) (ev_var 1 (pv 1))) (ev_var 4 (pv 4))) (bv_tup (by rfl) (bvs_cons (bv_name (pg_name (i := 5) sc__law_alike.nd (by rfl) (by first | exact Or.inl rfl | exact Or.inr rfl))) (bvs_cons (bv_name (pg_name (i := 6) sc__law_alike.nd (by rfl) (by first | exact Or.inl rfl | exact Or.inr rfl))) bvs_nil)))) red_ev) (svs_cons (O1 := []) (sv_unpH (O := []) (ps_asg (ev_ix (ev_ix (ev_ix (ev_var 0 (pv 0)) ev_int) (ev_var 2 (pv 2))) (ev_var 4 (pv 4))) (bv_tup (by rfl) (bvs_cons (bv_name (pg_name (i := 7) sc__law_alike.nd (by rfl) (by first | exact Or.inl rfl | exact Or.inr rfl))) (bvs_cons (bv_name (pg_name (i := 8) sc__law_alike.nd (by rfl) (by first | exact Or.inl rfl | exact Or.inr rfl))) bvs_nil)))) red_ev) (svs_one (sv_if (O := []) (O' := []) (TW.tv (tw_or (tv_cmp (o_ne (Room.vs hr)) (ev_var 5 (pv 5)) (ev_var 7 (pv 7)) (nomark _)) (tw_or1 (tv_not (tv_val (ev_callC ih (hr.mono (Nat.le_refl _)) (by rfl) T.d__law_alike.m T.d__law_alike.k T.d__law_alike.b (av_cons (ev_var 0 (pv 0)) (av_cons (ev_var 6 (pv 6)) (av_cons (ev_var 8 (pv 8)) (av_cons (ev_bin o_sub (ev_var 3 (pv 3)) ev_int) av_nil)))))))))) (svs_one (sv_ret ev_bl)) svs_nil)))) (osub rfl) (osub rfl))) (svs_one (sv_ret ev_bl))))
theorem sc__law_reduced : FnScope n__law_reduced p__law_reduced (defScope st__law_reduced) := ⟨rfl, rfl, rfl, by decide +kernel, rfl, by decide +kernel, by decide +kernel⟩
theorem ok__law_reduced (T : Txt K mg) (ad : Option Addr) : FnOk P w K mg base (L2.CX P w) 7 T.d__law_reduced.f T.d__law_reduced.fd p__law_reduced (spV ⟨ad, w⟩ T.xc p__law_reduced.length r__law_reduced) :=
  fnV (k := 6) T.d__law_reduced.F sc__law_reduced ⟨ad, w⟩ T.xc s__law_reduced fun cdv A outer s H E hr F => (svs_cons (O1 := []) (sv_unpH (O := []) (ps_asg (ev_var 0 (pv 0)) (bv_tup (by rfl) (bvs_cons (bv_name (pg_name (i := 1) sc__law_reduced.nd (by rfl) (by first | exact Or.inl rfl | exact Or.inr rfl))) (bvs_cons (bv_name (pg_name (i := 2) sc__law_reduced.nd (by rfl) (by first | exact Or.inl rfl | exact Or.inr rfl))) (bvs_cons (bv_name (pg_name (i := 3) sc__law_reduced.nd (by rfl) (by first | exact Or.inl rfl | exact Or.inr rfl))) (bvs_cons (bv_name (pg_name (i := 4) sc__law_reduced.nd (by rfl) (by first | exact Or.inl rfl | exact Or.inr rfl))) bvs_nil)))))) red_ev) (svs_cons (O1 := [5]) (sv_asgNH (O := []) (O' := [5]) (i := 5) (ps_set (i := 5) sc__law_reduced.nd (by rfl) (by first | exact Or.inl rfl | exact Or.inr rfl) (evn_lst av_nil)) redN_ev (oset rfl) (by decide)) (svs_cons (O1 := [5]) (sv_forH (O := [5]) (passes_of (by rfl)) (by rfl) (iv_range1 (by rfl) T.b_range (av_cons (ev_callB o_len (by rfl) T.b_len (by decide +kernel) (av_cons (ev_var 4 (pv 4)) av_nil)) av_nil)) (bv_name (pg_name (i := 6) sc__law_reduced.nd (by rfl) (by first | exact Or.inl rfl | exact Or.inr rfl))) (ρb := b_law_reduced2) (svs_weak (O1 := [5]) (O2 := [5]) (svs_one (sv_appH (O := [5]) (i := 5) (ps_expr (pe_bm PySem.F.plainAttrs_list PySem.F.slot_list_append PySem.F.type_list_append mt_append (pv 5) (pa_cons (ev_callB (o_min (by rfl) (Room.vs hr)) (by rfl) T.b_min (by decide +kernel) (av_cons (ev_lc (own := [("i", 12)]) (by rfl) sc__law_reduced.nd (iv_range1 (by rfl) T.b_range (av_cons (ev_bin o_add (ev_var 6 (pv 6)) ev_int) av_nil)) (blkOk_by (N := n__law_reduced) (sc := defScope st__law_reduced) (own := [("i", 12)]) (by decide +kernel)) (fun _ _ _ _ _ => (bv_name (pg_name (i := 12) sc__law_reduced.nd (by rfl) (by first | exact Or.inl rfl | exact Or.inr rfl)))) (fun _ _ _ _ _ => (tvs_one (tv_val (ev_callC (ok__law_alike T ad 5) (hr.mono (by decide)) (by rfl) T.d__law_alike.m T.d__law_alike.k T.d__law_alike.b (av_cons (ev_var 0 (pv 0)) (av_cons (ev_var 12 (pv 12)) (av_cons (ev_var 6 (pv 6)) (av_cons (ev_callB o_len (by rfl) T.b_len (by decide +kernel) (av_cons (ev_var 4 (pv 4)) av_nil)) av_nil)))))))) (fun _ _ _ _ _ => (ev_var 12 (pv 12))) (sub_name (by decide))) av_nil)) pa_nil))) red_ev (by decide))) (osub rfl) (osub rfl))) (svs_cons (O1 := [5, 7]) (sv_asgN (O := [5]) (O' := [5, 7]) (i := 7) (ps_set (i := 7) sc__law_reduced.nd (by rfl) (by first | exact Or.inl rfl | exact Or.inr rfl) (evn_lst (av_cons (ev_ix (ev_var 5 (pv 5)) ev_int) av_nil))) redN_ev (oset rfl) (by decide)) (svs_cons (O1 := [5, 7, 8]) (sv_asgNH (O := [5, 7]) (O' := [5, 7, 8]) (i := 8) (ps_set (i := 8) sc__law_reduced.nd (by rfl) (by first | exact Or.inl rfl | exact Or.inr rfl) (evn_lst av_nil)) redN_ev (oset rfl) (by decide)) (svs_cons (O1 := [5, 7, 8]) (sv_while (O := [5, 7, 8]) (passes_of (by rfl)) (tv_cmp o_lt (ev_callB o_len (by rfl) T.b_len (by decide +kernel) (av_cons (ev_var 8 (pv 8)) av_nil)) (ev_callB o_len (by rfl) T.b_len (by decide +kernel) (av_cons (ev_var 7 (pv 7)) av_nil)) (nomark _)) (ρb := b_law_reduced4) (svs_weak (O1 := [5, 7, 8]) (O2 := [5, 7, 8, 9]) (svs_cons (O1 := [5, 7, 8, 9]) (sv_asgNH (O := [5, 7, 8]) (O' := [5, 7, 8, 9]) (i := 9) (ps_set (i := 9) sc__law_reduced.nd (by rfl) (by first | exact Or.inl rfl | exact Or.inr rfl) (evn_lst av_nil)) redN_ev (oset rfl) (by decide)) (svs_cons (O1 := [5, 7, 8, 9]) (sv_forT (O := [5, 7, 8, 9]) (passes_of (by rfl)) (by rfl) (ev_ix (ev_var 4 (pv 4)) (ev_ix (ev_var 7 (pv 7)) (ev_callB o_len (by rfl) T.b_len (by decide +kernel) (av_cons (ev_var 8 (pv 8)) av_nil)))) (bv_tup (by rfl) (bvs_cons (bv_name (pg_name (i := 10) sc__law_reduced.nd (by rfl) (by first | exact Or.inl rfl | exact Or.inr rfl))) (bvs_cons (bv_name (pg_name (i := 11) sc__law_reduced.nd (by rfl) (by first | exact Or.inl rfl | exact Or.inr rfl))) bvs_nil))) (ρb := b_law_reduced3) (svs_weak (O1 := [5, 7, 8, 9]) (O2 := [5, 7, 8, 9]) (svs_cons (O1 := [5, 7, 8, 9]) (sv_if (O := [5, 7, 8, 9]) (O' := [5, 7, 8, 9]) (tv_cmp (o_notIn (Room.vs hr)) (ev_ix (ev_var 5 (pv 5)) (ev_var 11 (pv 11))) (ev_var 7 (pv 7)) (by rfl)) (svs_one (sv_appF (O := [5, 7, 8, 9]) (i := 7) (ps_expr (pe_bm PySem.F.plainAttrs_list PySem.F.slot_list_append PySem.F.type_list_append mt_append (pv 7) (pa_cons (ev_ix (ev_var 5 (pv 5)) (ev_var 11 (pv 11))) pa_nil))) red_ev (by decide))) svs_nil) (svs_one (sv_appF (O := [5, 7, 8, 9]) (i := 9) (ps_expr (pe_bm PySem.F.plainAttrs_list PySem.F.slot_list_append PySem.F.type_list_append mt_append (pv 9) (pa_cons (ev_tup (av_cons (ev_var 10 (pv 10)) (av_cons (ev_idx (Room.v5 hr) (ev_var 7 (pv 7)) (ev_ix (ev_var 5 (pv 5)) (ev_var 11 (pv 11)))) av_nil))) pa_nil))) red_ev (by decide)))) (osub rfl) (osub rfl))) (svs_one (sv_appF (O := [5, 7, 8, 9]) (i := 8) (ps_expr (pe_bm PySem.F.plainAttrs_list PySem.F.slot_list_append PySem.F.type_list_append mt_append (pv 8) (pa_cons (ev_callTy o_tup (by rfl) T.b_tuple (by decide +kernel) (av_cons (ev_var 9 (pv 9)) av_nil)) pa_nil))) red_ev (by decide))))) (osub rfl) (osub rfl))) (svs_one (sv_ret (ev_tup (av_cons (ev_var 1 (pv 1)) (av_cons (ev_var 2 (pv 2)) (av_cons (ev_var 3 (pv 3)) (av_cons (ev_callTy o_tup (by rfl) T.b_tuple (by decide +kernel) (av_cons (ev_var 8 (pv 8)) av_nil)) av_nil)))))))))))))
theorem sc__law_meeting : FnScope n__law_meeting p__law_meeting (defScope st__law_meeting) := ⟨rfl, rfl, rfl, by decide +kernel, rfl, by decide +kernel, by decide +kernel⟩
theorem ok__law_meeting (T : Txt K mg) (ad : Option Addr) : FnOk P w K mg base (L2.CX P w) 1 T.d__law_meeting.f T.d__law_meeting.fd p__law_meeting (spV ⟨ad, w⟩ T.xc p__law_meeting.length r__law_meeting) :=
  fnV (k := 0) T.d__law_meeting.F sc__law_meeting ⟨ad, w⟩ T.xc s__law_meeting fun cdv A outer s H E hr F => (svs_cons (O1 := []) (sv_asgH (O := []) (O' := []) (i := 2) (ps_set (i := 2) sc__law_meeting.nd (by rfl) (by first | exact Or.inl rfl | exact Or.inr rfl) (ev_ix (ev_var 0 (pv 0)) ev_int)) red_ev (oset rfl) (by decide)) (svs_cons (O1 := [3]) (sv_asgNH (O := []) (O' := [3]) (i := 3) (ps_set (i := 3) sc__law_meeting.nd (by rfl) (by first | exact Or.inl rfl | exact Or.inr rfl) (evn_lst av_nil)) redN_ev (oset rfl) (by decide)) (svs_cons (O1 := [3, 4]) (sv_asgNH (O := [3]) (O' := [3, 4]) (i := 4) (ps_set (i := 4) sc__law_meeting.nd (by rfl) (by first | exact Or.inl rfl | exact Or.inr rfl) (evn_lst av_nil)) redN_ev (oset rfl) (by decide)) (svs_cons (O1 := [3, 4]) (sv_asgH (O := [3, 4]) (O' := [3, 4]) (i := 5) (ps_set (i := 5) sc__law_meeting.nd (by rfl) (by first | exact Or.inl rfl | exact Or.inr rfl) (ev_tup (av_cons ev_int (av_cons ev_int av_nil)))) red_ev (oset rfl) (by decide)) (svs_cons (O1 := [3, 4]) (sv_forH (O := [3, 4]) (passes_of (by rfl)) (by rfl) (iv_range1 (by rfl) T.b_range (av_cons ev_int av_nil)) (bv_name (pg_name (i := 6) sc__law_meeting.nd (by rfl) (by first | exact Or.inl rfl | exact Or.inr rfl))) (ρb := b_law_meeting1) (svs_weak (O1 := [3, 4]) (O2 := [3, 4]) (svs_cons (O1 := [3, 4]) (sv_if (O := [3, 4]) (O' := [3, 4]) (tv_cmp (o_in (Room.vs hr)) (ev_var 5 (pv 5)) (ev_var 3 (pv 3)) (by rfl)) (svs_one (sv_break (osub rfl))) svs_nil) (svs_cons (O1 := [3, 4]) (sv_appH (O := [3, 4]) (i := 3) (ps_expr (pe_bm PySem.F.plainAttrs_list PySem.F.slot_list_append PySem.F.type_list_append mt_append (pv 3) (pa_cons (ev_var 5 (pv 5)) pa_nil))) red_ev (by decide)) (svs_cons (O1 := [3, 4]) (sv_unpH (O := [3, 4]) (ps_asg (ev_ix (ev_ix (ev_var 1 (pv 1)) ev_int) (ev_ix (ev_var 5 (pv 5)) ev_int)) (bv_tup (by rfl) (bvs_cons (bv_name (pg_name (i := 7) sc__law_meeting.nd (by rfl) (by first | exact Or.inl rfl | exact Or.inr rfl))) (bvs_cons (bv_name (pg_name (i := 8) sc__law_meeting.nd (by rfl) (by first | exact Or.inl rfl | exact Or.inr rfl))) bvs_nil)))) red_ev) (svs_cons (O1 := [3, 4]) (sv_unpH (O := [3, 4]) (ps_asg (ev_ix (ev_ix (ev_ix (ev_var 0 (pv 0)) ev_int) (ev_ix (ev_var 5 (pv 5)) ev_int)) (ev_var 7 (pv 7))) (bv_tup (by rfl) (bvs_cons (bv_name (pg_name (i := 9) sc__law_meeting.nd (by rfl) (by first | exact Or.inl rfl | exact Or.inr rfl))) (bvs_cons (bv_name (pg_name (i := 10) sc__law_meeting.nd (by rfl) (by first | exact Or.inl rfl | exact Or.inr rfl))) bvs_nil)))) red_ev) (svs_cons (O1 := [3, 4]) (sv_appH (O := [3, 4]) (i := 4) (ps_expr (pe_bm PySem.F.plainAttrs_list PySem.F.slot_list_append PySem.F.type_list_append mt_append (pv 4) (pa_cons (ev_bin o_add (ev_var 7 (pv 7)) (ev_bin o_shl (ev_var 9 (pv 9)) (ev_var 2 (pv 2)))) pa_nil))) red_ev (by decide)) (svs_one (sv_asgH (O := [3, 4]) (O' := [3, 4]) (i := 5) (ps_set (i := 5) sc__law_meeting.nd (by rfl) (by first | exact Or.inl rfl | exact Or.inr rfl) (ev_tup (av_cons (ev_var 10 (pv 10)) (av_cons (ev_ix (ev_var 8 (pv 8)) (ev_var 9 (pv 9))) av_nil)))) red_ev (oset rfl) (by decide)))))))) (osub rfl) (osub rfl))) (svs_cons (O1 := [3, 4]) (sv_asgF (O := [3, 4]) (O' := [3, 4]) (i := 11) (ps_set (i := 11) sc__law_meeting.nd (by rfl) (by first | exact Or.inl rfl | exact Or.inr rfl) (ev_idx (Room.v5 hr) (ev_var 3 (pv 3)) (ev_var 5 (pv 5)))) red_ev (oset rfl)) (svs_one (sv_ret (ev_tup (av_cons ev_str (av_cons (ev_callTy o_tup (by rfl) T.b_tuple (by decide +kernel) (av_cons (ev_slice (ev_var 4 (pv 4)) pv_none (pv_some (ev_var 11 (pv 11)))) av_nil)) (av_cons (ev_callTy o_tup (by rfl) T.b_tuple (by decide +kernel) (av_cons (ev_slice (ev_var 4 (pv 4)) (pv_some (ev_var 11 (pv 11))) pv_none) av_nil)) av_nil))))))))))))
theorem sc__law_wrong : FnScope n__law_wrong p__law_wrong (defScope st__law_wrong) := ⟨rfl, rfl, rfl, by decide +kernel, rfl, by decide +kernel, by decide +kernel⟩
theorem ok__law_wrong (T : Txt K mg) (ad : Option Addr) : FnOk P w K mg base (L2.CX P w) 2 T.d__law_wrong.f T.d__law_wrong.fd p__law_wrong (spV ⟨ad, w⟩ T.xc p__law_wrong.length r__law_wrong) :=
  fnV (k := 1) T.d__law_wrong.F sc__law_wrong ⟨ad, w⟩ T.xc s__law_wrong fun cdv A outer s H E hr F => (svs_cons (O1 := []) (sv_asgH (O := []) (O' := []) (i := 3) (ps_set (i := 3) sc__law_wrong.nd (by rfl) (by first | exact Or.inl rfl | exact Or.inr rfl) (ev_ix (ev_var 1 (pv 1)) ev_int)) red_ev (oset rfl) (by decide)) (svs_one (sv_ret (ev_ix (ev_lst (av_cons ev_non (av_cons (ev_tup (av_cons ev_str (av_cons (ev_ix (ev_var 1 (pv 1)) ev_int) (av_cons (ev_ix (ev_var 1 (pv 1)) ev_int) (av_cons (ev_tup av_nil) av_nil))))) (av_cons (ev_bin o_add (ev_tup (av_cons ev_str av_nil)) (ev_slice (ev_var 1 (pv 1)) (pv_some ev_int) pv_none)) (av_cons (ev_bin o_add (ev_slice (ev_var 1 (pv 1)) pv_none (pv_some ev_int)) (ev_tup (av_cons (ev_callTy (OpLN.ol o_list) (by rfl) T.b_list (by decide +kernel) (av_cons (ev_var 3 (pv 3)) av_nil)) av_nil))) (av_cons (ev_bin o_add (ev_slice (ev_var 1 (pv 1)) pv_none (pv_some ev_int)) (ev_tup (av_cons (ev_bin o_add (ev_var 3 (pv 3)) (ev_tup (av_cons (ev_tup av_nil) av_nil))) av_nil))) (av_cons (ev_bin o_add (ev_slice (ev_var 1 (pv 1)) pv_none (pv_some ev_int)) (ev_tup (av_cons (ev_bin o_add (ev_tup (av_cons (ev_bin o_mul2 (ev_tup (av_cons (ev_tup (av_cons ev_int (av_cons (ev_callB o_len (by rfl) T.b_len (by decide +kernel) (av_cons (ev_var 3 (pv 3)) av_nil)) av_nil))) av_nil)) (ev_bin o_shl ev_int (ev_ix (ev_var 1 (pv 1)) ev_int))) av_nil)) (ev_slice (ev_var 3 (pv 3)) (pv_some ev_int) pv_none)) av_nil))) (av_cons (ev_tup (av_cons ev_str (av_cons ev_int (av_cons ev_int (av_cons (ev_var 3 (pv 3)) av_nil))))) (av_cons (ev_bin o_add (ev_slice (ev_var 1 (pv 1)) pv_none (pv_some ev_int)) (ev_tup (av_cons (ev_bin o_add (ev_tup (av_cons (ev_bin o_mul2 (ev_tup (av_cons (ev_tup (av_cons (ev_bin o_shl ev_int (ev_ix (ev_var 1 (pv 1)) ev_int)) (av_cons ev_int av_nil))) av_nil)) (ev_bin o_shl ev_int (ev_ix (ev_var 1 (pv 1)) ev_int))) av_nil)) (ev_slice (ev_var 3 (pv 3)) (pv_some ev_int) pv_none)) av_nil))) (av_cons (ev_tup (av_cons ev_str (av_cons ev_bl (av_cons (ev_ix (ev_var 1 (pv 1)) ev_int) (av_cons (ev_var 3 (pv 3)) av_nil))))) (av_cons (ev_bin o_add (ev_slice (ev_var 2 (pv 2)) pv_none (pv_some ev_int)) (ev_tup (av_cons (ev_bin o_add (ev_ix (ev_var 2 (pv 2)) ev_int) (ev_tup (av_cons (ev_tup (av_cons (ev_bin o_shl ev_int (ev_ix (ev_var 2 (pv 2)) ev_int)) (av_cons (ev_ix (ev_ix (ev_ix (ev_var 2 (pv 2)) ev_int) ev_int) ev_int) av_nil))) av_nil))) av_nil))) (av_cons (ev_tup (av_cons ev_str (av_cons ev_int (av_cons ev_int (av_cons (ev_tup (av_cons (ev_tup (av_cons ev_int (av_cons (ev_tup (av_cons ev_int av_nil)) av_nil))) av_nil)) av_nil))))) av_nil)))))))))))) (ev_callC (ok__law_draw T ad) (hr.mono (by decide)) (by rfl) T.d__law_draw.m T.d__law_draw.k T.d__law_draw.b (av_cons (ev_var 0 (pv 0)) (av_cons ev_int av_nil)))))))
end
end K66

/-! K66c: what tells, a case. -/
namespace K66
open PySem PySem.Spec L2 RZ VC
open PyProof.Rows hiding St
section
variable {P : Program} {w : World} {K : PySem.W.Frag} {mg : Str → Option Value} {base : Heap}
theorem sc__law_word : FnScope n__law_word p__law_word (defScope st__law_word) := ⟨rfl, rfl, rfl, by decide +kernel, rfl, by decide +kernel, by decide +kernel⟩
theorem ok__law_word_answers (T : Txt K mg) (ad : Option Addr) : FnOk P w K mg base (L2.CX P w) 6 T.d__law_word.f T.d__law_word.fd p__law_word (spWord ⟨ad, w⟩ r_answers T.d_answers.f) := by
  refine T.d__law_word.F.okX (k := 5) sc__law_word (fun vs H Q E h => by obtain ⟨v1, v2, rfl, _⟩ := h; rfl) fun cdv A outer s H vs Q E hr h => ?_
  obtain ⟨v1, v2, rfl, F, g, ds, b, q, hm⟩ := h
  refine ⟨_, pss_cons (ps_try_mix (i := 3) (tb := fun W => tDrop (fun σ H Q => σ[0]? = some (some (.ref T.d_answers.f)) ∧ tCallS (spV ⟨ad, w⟩ T.xc p_answers.length r_answers) (WE W) (tCons (tVar 1) (tCons (tVar 2) tNil)) σ H Q)) (by rfl) (by rfl) sc__law_word.nd (by rfl) (by rfl) (takes_of (by rfl) (by rfl) (by rfl) (by rfl))
    (fun W pn xe tk _ => pss_one (ps_expr (pe_callLS (i := 0) (ok_answers T ad) (hr.mono (by decide)) (by rfl) (Or.inl rfl) T.d_answers.k T.d_answers.b (fun σ => passAt tk σ) (pa_cons (pv 1) (pa_cons (pv 2) pa_nil)))))
    (.as (c := .ref T.x_BadMachine.C) (ts := fun a cls d => tRet (tXf a cls d T.x_BadMachine.C "place" (tVar 3))) ⟨by rfl, by decide, .inl T.x_BadMachine.m⟩ (fun a oe cls d pn hz hf => pss_one (ps_ret (pe_xf T.x_BadMachine.xf T.x_BadMachine.no hz hf (pv 3))))
      (.no (c := .ref T.x_BadWord.C) (ts := fun a cls d => tRet (tC (.str "word"))) ⟨by rfl, by decide, .inl T.x_BadWord.m⟩ (fun a oe cls d pn hz hf => pss_one (ps_ret pe_str)) .nil)))
    (pss_one (ps_ret pe_non)), ?_⟩
  refine ⟨rfl, v1, rfl, v2, rfl, rfl, F, g, ds, b, q, ?_⟩
  unfold catchW at hm
  cases ho : r_answers ds g with
  | bad => rw [ho] at hm; exact hm
  | ok d g' =>
    rw [ho] at hm
    exact fun v H' F' ex bb r => hm .non H' F' ex bb non_r
  | exn c p g' =>
    rw [ho] at hm
    intro H' F' cls dd ex bb xa
    obtain ⟨C, n, hx, rfl, hn⟩ := xa
    by_cases h0 : c = 0
    · have hm : ∀ v H' F', Ext ⟨ad, w⟩ F H F' H' → BagOk ⟨ad, w⟩ F' H' g' → R H' F' ⟨ad, w⟩ p v → Q v H' := by
        simp only [h0, if_true] at hm
        exact hm
      have hx : T.xc c = some (C, n) := hx
      unfold Txt.xc at hx
      rw [if_pos h0] at hx
      cases hx
      obtain ⟨d1, v, rfl, hd, _, qv⟩ := hn
      exact ⟨true, T.x_BadMachine.te, fun _ a ha => ⟨.ref a, rfl, rfl, rfl, d1, _, v, rfl, hd, rfl, hm v H' F' ex bb qv⟩, fun z => by cases z⟩
    · by_cases h1 : c = 1
      · have hm : ∀ v H' F', Ext ⟨ad, w⟩ F H F' H' → BagOk ⟨ad, w⟩ F' H' g' → R H' F' ⟨ad, w⟩ (.str "word") v → Q v H' := by
          simp only [h1, if_true] at hm
          exact hm
        have hx : T.xc c = some (C, n) := hx
        unfold Txt.xc at hx
        rw [if_neg h0, if_pos h1] at hx
        cases hx
        exact ⟨false, T.no10, (fun z => by cases z), fun _ => ⟨true, T.x_BadWord.te, fun _ a ha => hm (.str "word") H' F' ex bb str_r, (fun z => by cases z)⟩⟩
      · have hx : T.xc c = some (C, n) := hx
        unfold Txt.xc at hx
        rw [if_neg h0, if_neg h1] at hx
        cases hx

theorem ok__law_word_follows (T : Txt K mg) (ad : Option Addr) : FnOk P w K mg base (L2.CX P w) 6 T.d__law_word.f T.d__law_word.fd p__law_word (spWord ⟨ad, w⟩ r_follows T.d_follows.f) := by
  refine T.d__law_word.F.okX (k := 5) sc__law_word (fun vs H Q E h => by obtain ⟨v1, v2, rfl, _⟩ := h; rfl) fun cdv A outer s H vs Q E hr h => ?_
  obtain ⟨v1, v2, rfl, F, g, ds, b, q, hm⟩ := h
  refine ⟨_, pss_cons (ps_try_mix (i := 3) (tb := fun W => tDrop (fun σ H Q => σ[0]? = some (some (.ref T.d_follows.f)) ∧ tCallS (spV ⟨ad, w⟩ T.xc p_follows.length r_follows) (WE W) (tCons (tVar 1) (tCons (tVar 2) tNil)) σ H Q)) (by rfl) (by rfl) sc__law_word.nd (by rfl) (by rfl) (takes_of (by rfl) (by rfl) (by rfl) (by rfl))
    (fun W pn xe tk _ => pss_one (ps_expr (pe_callLS (i := 0) (ok_follows T ad) (hr.mono (by decide)) (by rfl) (Or.inl rfl) T.d_follows.k T.d_follows.b (fun σ => passAt tk σ) (pa_cons (pv 1) (pa_cons (pv 2) pa_nil)))))
    (.as (c := .ref T.x_BadMachine.C) (ts := fun a cls d => tRet (tXf a cls d T.x_BadMachine.C "place" (tVar 3))) ⟨by rfl, by decide, .inl T.x_BadMachine.m⟩ (fun a oe cls d pn hz hf => pss_one (ps_ret (pe_xf T.x_BadMachine.xf T.x_BadMachine.no hz hf (pv 3))))
      (.no (c := .ref T.x_BadWord.C) (ts := fun a cls d => tRet (tC (.str "word"))) ⟨by rfl, by decide, .inl T.x_BadWord.m⟩ (fun a oe cls d pn hz hf => pss_one (ps_ret pe_str)) .nil)))
    (pss_one (ps_ret pe_non)), ?_⟩
  refine ⟨rfl, v1, rfl, v2, rfl, rfl, F, g, ds, b, q, ?_⟩
  unfold catchW at hm
  cases ho : r_follows ds g with
  | bad => rw [ho] at hm; exact hm
  | ok d g' =>
    rw [ho] at hm
    exact fun v H' F' ex bb r => hm .non H' F' ex bb non_r
  | exn c p g' =>
    rw [ho] at hm
    intro H' F' cls dd ex bb xa
    obtain ⟨C, n, hx, rfl, hn⟩ := xa
    by_cases h0 : c = 0
    · have hm : ∀ v H' F', Ext ⟨ad, w⟩ F H F' H' → BagOk ⟨ad, w⟩ F' H' g' → R H' F' ⟨ad, w⟩ p v → Q v H' := by
        simp only [h0, if_true] at hm
        exact hm
      have hx : T.xc c = some (C, n) := hx
      unfold Txt.xc at hx
      rw [if_pos h0] at hx
      cases hx
      obtain ⟨d1, v, rfl, hd, _, qv⟩ := hn
      exact ⟨true, T.x_BadMachine.te, fun _ a ha => ⟨.ref a, rfl, rfl, rfl, d1, _, v, rfl, hd, rfl, hm v H' F' ex bb qv⟩, fun z => by cases z⟩
    · by_cases h1 : c = 1
      · have hm : ∀ v H' F', Ext ⟨ad, w⟩ F H F' H' → BagOk ⟨ad, w⟩ F' H' g' → R H' F' ⟨ad, w⟩ (.str "word") v → Q v H' := by
          simp only [h1, if_true] at hm
          exact hm
        have hx : T.xc c = some (C, n) := hx
        unfold Txt.xc at hx
        rw [if_neg h0, if_pos h1] at hx
        cases hx
        exact ⟨false, T.no10, (fun z => by cases z), fun _ => ⟨true, T.x_BadWord.te, fun _ a ha => hm (.str "word") H' F' ex bb str_r, (fun z => by cases z)⟩⟩
      · have hx : T.xc c = some (C, n) := hx
        unfold Txt.xc at hx
        rw [if_neg h0, if_neg h1] at hx
        cases hx

theorem ok__law_word_meets (T : Txt K mg) (ad : Option Addr) : FnOk P w K mg base (L2.CX P w) 6 T.d__law_word.f T.d__law_word.fd p__law_word (spWord ⟨ad, w⟩ r_meets T.d_meets.f) := by
  refine T.d__law_word.F.okX (k := 5) sc__law_word (fun vs H Q E h => by obtain ⟨v1, v2, rfl, _⟩ := h; rfl) fun cdv A outer s H vs Q E hr h => ?_
  obtain ⟨v1, v2, rfl, F, g, ds, b, q, hm⟩ := h
  refine ⟨_, pss_cons (ps_try_mix (i := 3) (tb := fun W => tDrop (fun σ H Q => σ[0]? = some (some (.ref T.d_meets.f)) ∧ tCallS (spV ⟨ad, w⟩ T.xc p_meets.length r_meets) (WE W) (tCons (tVar 1) (tCons (tVar 2) tNil)) σ H Q)) (by rfl) (by rfl) sc__law_word.nd (by rfl) (by rfl) (takes_of (by rfl) (by rfl) (by rfl) (by rfl))
    (fun W pn xe tk _ => pss_one (ps_expr (pe_callLS (i := 0) (ok_meets T ad) (hr.mono (by decide)) (by rfl) (Or.inl rfl) T.d_meets.k T.d_meets.b (fun σ => passAt tk σ) (pa_cons (pv 1) (pa_cons (pv 2) pa_nil)))))
    (.as (c := .ref T.x_BadMachine.C) (ts := fun a cls d => tRet (tXf a cls d T.x_BadMachine.C "place" (tVar 3))) ⟨by rfl, by decide, .inl T.x_BadMachine.m⟩ (fun a oe cls d pn hz hf => pss_one (ps_ret (pe_xf T.x_BadMachine.xf T.x_BadMachine.no hz hf (pv 3))))
      (.no (c := .ref T.x_BadWord.C) (ts := fun a cls d => tRet (tC (.str "word"))) ⟨by rfl, by decide, .inl T.x_BadWord.m⟩ (fun a oe cls d pn hz hf => pss_one (ps_ret pe_str)) .nil)))
    (pss_one (ps_ret pe_non)), ?_⟩
  refine ⟨rfl, v1, rfl, v2, rfl, rfl, F, g, ds, b, q, ?_⟩
  unfold catchW at hm
  cases ho : r_meets ds g with
  | bad => rw [ho] at hm; exact hm
  | ok d g' =>
    rw [ho] at hm
    exact fun v H' F' ex bb r => hm .non H' F' ex bb non_r
  | exn c p g' =>
    rw [ho] at hm
    intro H' F' cls dd ex bb xa
    obtain ⟨C, n, hx, rfl, hn⟩ := xa
    by_cases h0 : c = 0
    · have hm : ∀ v H' F', Ext ⟨ad, w⟩ F H F' H' → BagOk ⟨ad, w⟩ F' H' g' → R H' F' ⟨ad, w⟩ p v → Q v H' := by
        simp only [h0, if_true] at hm
        exact hm
      have hx : T.xc c = some (C, n) := hx
      unfold Txt.xc at hx
      rw [if_pos h0] at hx
      cases hx
      obtain ⟨d1, v, rfl, hd, _, qv⟩ := hn
      exact ⟨true, T.x_BadMachine.te, fun _ a ha => ⟨.ref a, rfl, rfl, rfl, d1, _, v, rfl, hd, rfl, hm v H' F' ex bb qv⟩, fun z => by cases z⟩
    · by_cases h1 : c = 1
      · have hm : ∀ v H' F', Ext ⟨ad, w⟩ F H F' H' → BagOk ⟨ad, w⟩ F' H' g' → R H' F' ⟨ad, w⟩ (.str "word") v → Q v H' := by
          simp only [h1, if_true] at hm
          exact hm
        have hx : T.xc c = some (C, n) := hx
        unfold Txt.xc at hx
        rw [if_neg h0, if_pos h1] at hx
        cases hx
        exact ⟨false, T.no10, (fun z => by cases z), fun _ => ⟨true, T.x_BadWord.te, fun _ a ha => hm (.str "word") H' F' ex bb str_r, (fun z => by cases z)⟩⟩
      · have hx : T.xc c = some (C, n) := hx
        unfold Txt.xc at hx
        rw [if_neg h0, if_neg h1] at hx
        cases hx

theorem ok__law_word_follows_lasso (T : Txt K mg) (ad : Option Addr) : FnOk P w K mg base (L2.CX P w) 6 T.d__law_word.f T.d__law_word.fd p__law_word (spWord ⟨ad, w⟩ r_follows_lasso T.d_follows_lasso.f) := by
  refine T.d__law_word.F.okX (k := 5) sc__law_word (fun vs H Q E h => by obtain ⟨v1, v2, rfl, _⟩ := h; rfl) fun cdv A outer s H vs Q E hr h => ?_
  obtain ⟨v1, v2, rfl, F, g, ds, b, q, hm⟩ := h
  refine ⟨_, pss_cons (ps_try_mix (i := 3) (tb := fun W => tDrop (fun σ H Q => σ[0]? = some (some (.ref T.d_follows_lasso.f)) ∧ tCallS (spV ⟨ad, w⟩ T.xc p_follows_lasso.length r_follows_lasso) (WE W) (tCons (tVar 1) (tCons (tVar 2) tNil)) σ H Q)) (by rfl) (by rfl) sc__law_word.nd (by rfl) (by rfl) (takes_of (by rfl) (by rfl) (by rfl) (by rfl))
    (fun W pn xe tk _ => pss_one (ps_expr (pe_callLS (i := 0) (ok_follows_lasso T ad) (hr.mono (by decide)) (by rfl) (Or.inl rfl) T.d_follows_lasso.k T.d_follows_lasso.b (fun σ => passAt tk σ) (pa_cons (pv 1) (pa_cons (pv 2) pa_nil)))))
    (.as (c := .ref T.x_BadMachine.C) (ts := fun a cls d => tRet (tXf a cls d T.x_BadMachine.C "place" (tVar 3))) ⟨by rfl, by decide, .inl T.x_BadMachine.m⟩ (fun a oe cls d pn hz hf => pss_one (ps_ret (pe_xf T.x_BadMachine.xf T.x_BadMachine.no hz hf (pv 3))))
      (.no (c := .ref T.x_BadWord.C) (ts := fun a cls d => tRet (tC (.str "word"))) ⟨by rfl, by decide, .inl T.x_BadWord.m⟩ (fun a oe cls d pn hz hf => pss_one (ps_ret pe_str)) .nil)))
    (pss_one (ps_ret pe_non)), ?_⟩
  refine ⟨rfl, v1, rfl, v2, rfl, rfl, F, g, ds, b, q, ?_⟩
  unfold catchW at hm
  cases ho : r_follows_lasso ds g with
  | bad => rw [ho] at hm; exact hm
  | ok d g' =>
    rw [ho] at hm
    exact fun v H' F' ex bb r => hm .non H' F' ex bb non_r
  | exn c p g' =>
    rw [ho] at hm
    intro H' F' cls dd ex bb xa
    obtain ⟨C, n, hx, rfl, hn⟩ := xa
    by_cases h0 : c = 0
    · have hm : ∀ v H' F', Ext ⟨ad, w⟩ F H F' H' → BagOk ⟨ad, w⟩ F' H' g' → R H' F' ⟨ad, w⟩ p v → Q v H' := by
        simp only [h0, if_true] at hm
        exact hm
      have hx : T.xc c = some (C, n) := hx
      unfold Txt.xc at hx
      rw [if_pos h0] at hx
      cases hx
      obtain ⟨d1, v, rfl, hd, _, qv⟩ := hn
      exact ⟨true, T.x_BadMachine.te, fun _ a ha => ⟨.ref a, rfl, rfl, rfl, d1, _, v, rfl, hd, rfl, hm v H' F' ex bb qv⟩, fun z => by cases z⟩
    · by_cases h1 : c = 1
      · have hm : ∀ v H' F', Ext ⟨ad, w⟩ F H F' H' → BagOk ⟨ad, w⟩ F' H' g' → R H' F' ⟨ad, w⟩ (.str "word") v → Q v H' := by
          simp only [h1, if_true] at hm
          exact hm
        have hx : T.xc c = some (C, n) := hx
        unfold Txt.xc at hx
        rw [if_neg h0, if_pos h1] at hx
        cases hx
        exact ⟨false, T.no10, (fun z => by cases z), fun _ => ⟨true, T.x_BadWord.te, fun _ a ha => hm (.str "word") H' F' ex bb str_r, (fun z => by cases z)⟩⟩
      · have hx : T.xc c = some (C, n) := hx
        unfold Txt.xc at hx
        rw [if_neg h0, if_neg h1] at hx
        cases hx
theorem sc__law_case : FnScope n__law_case p__law_case (defScope st__law_case) := ⟨rfl, rfl, rfl, by decide +kernel, rfl, by decide +kernel, by decide +kernel⟩
theorem ok__law_case (T : Txt K mg) (ad : Option Addr) : FnOk P w K mg base (L2.CX P w) 8 T.d__law_case.f T.d__law_case.fd p__law_case (spV ⟨ad, w⟩ T.xc p__law_case.length r__law_case) :=
  fnV (k := 7) T.d__law_case.F sc__law_case ⟨ad, w⟩ T.xc s__law_case fun cdv A outer s H E hr F => (svs_cons (O1 := []) (sv_unpH (O := []) (ps_asg (ev_ix (ev_lst (av_cons (ev_tup (av_cons ev_int (av_cons ev_int av_nil))) (av_cons (ev_tup (av_cons ev_int (av_cons ev_int av_nil))) (av_cons (ev_tup (av_cons ev_int (av_cons ev_int av_nil))) (av_cons (ev_tup (av_cons ev_int (av_cons ev_int av_nil))) (av_cons (ev_tup (av_cons ev_int (av_cons ev_int av_nil))) av_nil)))))) (ev_callC (ok__law_draw T ad) (hr.mono (by decide)) (by rfl) T.d__law_draw.m T.d__law_draw.k T.d__law_draw.b (av_cons (ev_var 0 (pv 0)) (av_cons ev_int av_nil)))) (bv_tup (by rfl) (bvs_cons (bv_name (pg_name (i := 1) sc__law_case.nd (by rfl) (by first | exact Or.inl rfl | exact Or.inr rfl))) (bvs_cons (bv_name (pg_name (i := 2) sc__law_case.nd (by rfl) (by first | exact Or.inl rfl | exact Or.inr rfl))) bvs_nil)))) red_ev) (svs_cons (O1 := []) (sv_asgH (O := []) (O' := []) (i := 3) (ps_set (i := 3) sc__law_case.nd (by rfl) (by first | exact Or.inl rfl | exact Or.inr rfl) (ev_callC (ok__law_machine T ad) (hr.mono (by decide)) (by rfl) T.d__law_machine.m T.d__law_machine.k T.d__law_machine.b (av_cons (ev_var 0 (pv 0)) (av_cons (ev_var 1 (pv 1)) (av_cons (ev_var 2 (pv 2)) (av_cons ev_int av_nil)))))) red_ev (oset rfl) (by decide)) (svs_cons (O1 := []) (sv_asgH (O := []) (O' := []) (i := 4) (ps_set (i := 4) sc__law_case.nd (by rfl) (by first | exact Or.inl rfl | exact Or.inr rfl) (ev_callC (ok__law_breaker T ad) (hr.mono (by decide)) (by rfl) T.d__law_breaker.m T.d__law_breaker.k T.d__law_breaker.b (av_cons (ev_var 0 (pv 0)) (av_cons (ev_var 1 (pv 1)) (av_cons (ev_var 2 (pv 2)) av_nil))))) red_ev (oset rfl) (by decide)) (svs_cons (O1 := []) (sv_if (O := []) (O' := []) (TW.tv (tw_or (tv_cmp o_notBl (ev_callC (ok_is_machine T ad) (hr.mono (by decide)) (by rfl) T.d_is_machine.m T.d_is_machine.k T.d_is_machine.b (av_cons (ev_var 3 (pv 3)) av_nil)) ev_bl (nomark _)) (tw_or (tv_cmp o_notBl (ev_callC (ok_is_breaker T ad) (hr.mono (by decide)) (by rfl) T.d_is_breaker.m T.d_is_breaker.k T.d_is_breaker.b (av_cons (ev_var 4 (pv 4)) av_nil)) ev_bl (nomark _)) (tw_or (tv_cmp o_notBl (ev_callC (ok_is_machine T ad) (hr.mono (by decide)) (by rfl) T.d_is_machine.m T.d_is_machine.k T.d_is_machine.b (av_cons (ev_var 4 (pv 4)) av_nil)) ev_bl (nomark _)) (tw_or1 (tv_cmp o_notBl (ev_callC (ok_is_breaker T ad) (hr.mono (by decide)) (by rfl) T.d_is_breaker.m T.d_is_breaker.k T.d_is_breaker.b (av_cons (ev_var 3 (pv 3)) av_nil)) ev_bl (nomark _))))))) (svs_one (sv_ret ev_bl)) svs_nil) (svs_cons (O1 := []) (sv_asgH (O := []) (O' := []) (i := 6) (ps_set (i := 6) sc__law_case.nd (by rfl) (by first | exact Or.inl rfl | exact Or.inr rfl) (ev_callTy o_tup (by rfl) T.b_tuple (by decide +kernel) (av_cons (ev_lc (own := [("k", 5)]) (by rfl) sc__law_case.nd (iv_range1 (by rfl) T.b_range (av_cons (ev_callC (ok__law_draw T ad) (hr.mono (by decide)) (by rfl) T.d__law_draw.m T.d__law_draw.k T.d__law_draw.b (av_cons (ev_var 0 (pv 0)) (av_cons ev_int av_nil))) av_nil)) (blkOk_by (N := n__law_case) (sc := defScope st__law_case) (own := [("k", 5)]) (by decide +kernel)) (fun _ _ _ _ _ => (bv_name (pg_name (i := 5) sc__law_case.nd (by rfl) (by first | exact Or.inl rfl | exact Or.inr rfl)))) (fun _ _ _ _ _ => tvs_nil) (fun _ _ _ _ _ => (ev_callC (ok__law_draw T ad) (hr.mono (by decide)) (by rfl) T.d__law_draw.m T.d__law_draw.k T.d__law_draw.b (av_cons (ev_var 0 (pv 0)) (av_cons (ev_bin o_shl ev_int (ev_var 1 (pv 1))) av_nil)))) (sub_name (by decide))) av_nil))) red_ev (oset rfl) (by decide)) (svs_cons (O1 := []) (sv_asgH (O := []) (O' := []) (i := 7) (ps_set (i := 7) sc__law_case.nd (by rfl) (by first | exact Or.inl rfl | exact Or.inr rfl) (ev_callC (ok_answers T ad) (hr.mono (by decide)) (by rfl) T.d_answers.m T.d_answers.k T.d_answers.b (av_cons (ev_var 3 (pv 3)) (av_cons (ev_var 6 (pv 6)) av_nil)))) red_ev (oset rfl) (by decide)) (svs_cons (O1 := []) (sv_if (O := []) (O' := []) (TW.tv (tw_or (tv_not (tv_val (ev_callC (ok__law_follows T ad) (hr.mono (by decide)) (by rfl) T.d__law_follows.m T.d__law_follows.k T.d__law_follows.b (av_cons (ev_var 3 (pv 3)) (av_cons (ev_var 7 (pv 7)) av_nil))))) (tw_or1 (tv_cmp (o_ne (Room.vs hr)) (ev_callTy o_tup (by rfl) T.b_tuple (by decide +kernel) (av_cons (ev_lc (own := [("letter", 13)]) (by rfl) sc__law_case.nd (iv_seq (ev_var 7 (pv 7))) (blkOk_by (N := n__law_case) (sc := defScope st__law_case) (own := [("letter", 13)]) (by decide +kernel)) (fun _ _ _ _ _ => (bv_name (pg_name (i := 13) sc__law_case.nd (by rfl) (by first | exact Or.inl rfl | exact Or.inr rfl)))) (fun _ _ _ _ _ => tvs_nil) (fun _ _ _ _ _ => (ev_bin o_band (ev_var 13 (pv 13)) (ev_bin o_sub (ev_bin o_shl ev_int (ev_var 1 (pv 1))) ev_int))) (sub_name (by decide))) av_nil)) (ev_var 6 (pv 6)) (nomark _))))) (svs_one (sv_ret ev_bl)) svs_nil) (svs_cons (O1 := []) (sv_asgH (O := []) (O' := []) (i := 8) (ps_set (i := 8) sc__law_case.nd (by rfl) (by first | exact Or.inl rfl | exact Or.inr rfl) (ev_callC (ok_meets T ad) (hr.mono (by decide)) (by rfl) T.d_meets.m T.d_meets.k T.d_meets.b (av_cons (ev_var 3 (pv 3)) (av_cons (ev_var 4 (pv 4)) av_nil)))) red_ev (oset rfl) (by decide)) (svs_cons (O1 := []) (sv_if (O := []) (O' := []) (tv_cmp (o_ne (Room.vs hr)) (ev_var 8 (pv 8)) (ev_callC (ok__law_meeting T ad) (hr.mono (by decide)) (by rfl) T.d__law_meeting.m T.d__law_meeting.k T.d__law_meeting.b (av_cons (ev_var 3 (pv 3)) (av_cons (ev_var 4 (pv 4)) av_nil))) (nomark _)) (svs_one (sv_ret ev_bl)) svs_nil) (svs_cons (O1 := []) (sv_forH (O := []) (passes_of (by rfl)) (by rfl) (iv_seq (ev_tup (av_cons (ev_var 3 (pv 3)) (av_cons (ev_var 4 (pv 4)) av_nil)))) (bv_name (pg_name (i := 9) sc__law_case.nd (by rfl) (by first | exact Or.inl rfl | exact Or.inr rfl))) (ρb := b_law_case5) (svs_weak (O1 := []) (O2 := []) (svs_cons (O1 := []) (sv_if (O := []) (O' := []) (tv_cmp o_notBl (ev_callC (ok_follows_lasso T ad) (hr.mono (by decide)) (by rfl) T.d_follows_lasso.m T.d_follows_lasso.k T.d_follows_lasso.b (av_cons (ev_var 9 (pv 9)) (av_cons (ev_var 8 (pv 8)) av_nil))) ev_bl (nomark _)) (svs_one (sv_ret ev_bl)) svs_nil) (svs_one (sv_forH (O := []) (passes_of (by rfl)) (by rfl) (iv_range1 (by rfl) T.b_range (av_cons ev_int av_nil)) (bv_name (pg_name (i := 5) sc__law_case.nd (by rfl) (by first | exact Or.inl rfl | exact Or.inr rfl))) (ρb := b_law_case4) (svs_weak (O1 := []) (O2 := []) (svs_cons (O1 := []) (sv_asgH (O := []) (O' := []) (i := 10) (ps_set (i := 10) sc__law_case.nd (by rfl) (by first | exact Or.inl rfl | exact Or.inr rfl) (ev_bin o_add (ev_slice (ev_var 7 (pv 7)) pv_none (pv_some (ev_callC (ok__law_draw T ad) (hr.mono (by decide)) (by rfl) T.d__law_draw.m T.d__law_draw.k T.d__law_draw.b (av_cons (ev_var 0 (pv 0)) (av_cons (ev_bin o_add (ev_callB o_len (by rfl) T.b_len (by decide +kernel) (av_cons (ev_var 7 (pv 7)) av_nil)) ev_int) av_nil))))) (ev_callTy o_tup (by rfl) T.b_tuple (by decide +kernel) (av_cons (ev_lc (own := [("turn", 14)]) (by rfl) sc__law_case.nd (iv_range1 (by rfl) T.b_range (av_cons (ev_callC (ok__law_draw T ad) (hr.mono (by decide)) (by rfl) T.d__law_draw.m T.d__law_draw.k T.d__law_draw.b (av_cons (ev_var 0 (pv 0)) (av_cons ev_int av_nil))) av_nil)) (blkOk_by (N := n__law_case) (sc := defScope st__law_case) (own := [("turn", 14)]) (by decide +kernel)) (fun _ _ _ _ _ => (bv_name (pg_name (i := 14) sc__law_case.nd (by rfl) (by first | exact Or.inl rfl | exact Or.inr rfl)))) (fun _ _ _ _ _ => tvs_nil) (fun _ _ _ _ _ => (ev_callC (ok__law_draw T ad) (hr.mono (by decide)) (by rfl) T.d__law_draw.m T.d__law_draw.k T.d__law_draw.b (av_cons (ev_var 0 (pv 0)) (av_cons (ev_bin o_shl ev_int (ev_bin o_add (ev_var 1 (pv 1)) (ev_var 2 (pv 2)))) av_nil)))) (sub_name (by decide))) av_nil)))) red_ev (oset rfl) (by decide)) (svs_cons (O1 := []) (sv_asgH (O := []) (O' := []) (i := 11) (ps_set (i := 11) sc__law_case.nd (by rfl) (by first | exact Or.inl rfl | exact Or.inr rfl) (ev_tup (av_cons ev_str (av_cons (ev_var 10 (pv 10)) (av_cons (ev_ix (ev_var 8 (pv 8)) ev_int) av_nil))))) red_ev (oset rfl) (by decide)) (svs_one (sv_if (O := []) (O' := []) (TW.tv (tw_or (tv_cmp (o_ne (Room.vs hr)) (ev_callC (ok_follows T ad) (hr.mono (by decide)) (by rfl) T.d_follows.m T.d_follows.k T.d_follows.b (av_cons (ev_var 9 (pv 9)) (av_cons (ev_var 10 (pv 10)) av_nil))) (ev_callC (ok__law_follows T ad) (hr.mono (by decide)) (by rfl) T.d__law_follows.m T.d__law_follows.k T.d__law_follows.b (av_cons (ev_var 9 (pv 9)) (av_cons (ev_var 10 (pv 10)) av_nil))) (nomark _)) (tw_or1 (tv_cmp (o_ne (Room.vs hr)) (ev_callC (ok_follows_lasso T ad) (hr.mono (by decide)) (by rfl) T.d_follows_lasso.m T.d_follows_lasso.k T.d_follows_lasso.b (av_cons (ev_var 9 (pv 9)) (av_cons (ev_var 11 (pv 11)) av_nil))) (ev_callC (ok__law_follows T ad) (hr.mono (by decide)) (by rfl) T.d__law_follows.m T.d__law_follows.k T.d__law_follows.b (av_cons (ev_var 9 (pv 9)) (av_cons (ev_bin o_add (ev_var 10 (pv 10)) (ev_bin o_mul2 (ev_ix (ev_var 8 (pv 8)) ev_int) ev_int)) av_nil))) (nomark _))))) (svs_one (sv_ret ev_bl)) svs_nil)))) (osub rfl) (osub rfl))))) (osub rfl) (osub rfl))) (svs_cons (O1 := []) (sv_if (O := []) (O' := []) (tv_cmp (o_ne (Room.vs hr)) (ev_callC (ok_reduced T ad) (hr.mono (by decide)) (by rfl) T.d_reduced.m T.d_reduced.k T.d_reduced.b (av_cons (ev_var 3 (pv 3)) av_nil)) (ev_callC (ok__law_reduced T ad) (hr.mono (by decide)) (by rfl) T.d__law_reduced.m T.d__law_reduced.k T.d__law_reduced.b (av_cons (ev_var 3 (pv 3)) av_nil)) (nomark _)) (svs_one (sv_ret ev_bl)) svs_nil) (svs_cons (O1 := []) (sv_asgH (O := []) (O' := []) (i := 12) (ps_set (i := 12) sc__law_case.nd (by rfl) (by first | exact Or.inl rfl | exact Or.inr rfl) (ev_callC (ok__law_wrong T ad) (hr.mono (by decide)) (by rfl) T.d__law_wrong.m T.d__law_wrong.k T.d__law_wrong.b (av_cons (ev_var 0 (pv 0)) (av_cons (ev_var 3 (pv 3)) (av_cons (ev_var 4 (pv 4)) av_nil))))) red_ev (oset rfl) (by decide)) (svs_cons (O1 := []) (sv_if (O := []) (O' := []) (TW.tv (tw_or (tv_cmp o_notBl (ev_callC (ok_is_machine T ad) (hr.mono (by decide)) (by rfl) T.d_is_machine.m T.d_is_machine.k T.d_is_machine.b (av_cons (ev_var 12 (pv 12)) av_nil)) ev_bl (nomark _)) (tw_or (tv_cmp o_notBl (ev_callC (ok_is_breaker T ad) (hr.mono (by decide)) (by rfl) T.d_is_breaker.m T.d_is_breaker.k T.d_is_breaker.b (av_cons (ev_var 12 (pv 12)) av_nil)) ev_bl (nomark _)) (tw_or (tv_cmp (o_ne (Room.vs hr)) (ev_word (ok__law_word_answers T ad) (hr.mono (by decide)) (by rfl) T.d__law_word.m T.d__law_word.k T.d__law_word.b (by rfl) T.d_answers.m (av_cons (ev_var 12 (pv 12)) (av_cons (ev_tup av_nil) av_nil))) ev_int (nomark _)) (tw_or1 (tv_cmp (o_ne (Room.vs hr)) (ev_word (ok__law_word_follows T ad) (hr.mono (by decide)) (by rfl) T.d__law_word.m T.d__law_word.k T.d__law_word.b (by rfl) T.d_follows.m (av_cons (ev_var 12 (pv 12)) (av_cons (ev_tup av_nil) av_nil))) ev_int (nomark _))))))) (svs_one (sv_ret ev_bl)) svs_nil) (svs_cons (O1 := []) (sv_if (O := []) (O' := []) (TW.tv (tw_or (tv_cmp (o_ne (Room.vs hr)) (ev_word (ok__law_word_meets T ad) (hr.mono (by decide)) (by rfl) T.d__law_word.m T.d__law_word.k T.d__law_word.b (by rfl) T.d_meets.m (av_cons (ev_var 3 (pv 3)) (av_cons (ev_var 3 (pv 3)) av_nil))) ev_int (nomark _)) (tw_or1 (tv_cmp (o_ne (Room.vs hr)) (ev_word (ok__law_word_answers T ad) (hr.mono (by decide)) (by rfl) T.d__law_word.m T.d__law_word.k T.d__law_word.b (by rfl) T.d_answers.m (av_cons (ev_var 3 (pv 3)) (av_cons (ev_tup (av_cons (ev_bin o_shl ev_int (ev_var 1 (pv 1))) av_nil)) av_nil))) ev_str (nomark _))))) (svs_one (sv_ret ev_bl)) svs_nil) (svs_one (sv_ret (ev_and (ev_cmp (o_eq (Room.vs hr)) (ev_word (ok__law_word_follows T ad) (hr.mono (by decide)) (by rfl) T.d__law_word.m T.d__law_word.k T.d__law_word.b (by rfl) T.d_follows.m (av_cons (ev_var 3 (pv 3)) (av_cons (ev_tup (av_cons (ev_bin o_shl ev_int (ev_bin o_add (ev_var 1 (pv 1)) (ev_var 2 (pv 2)))) av_nil)) av_nil))) ev_str (nomark _)) (ev_one (ev_cmp (o_eq (Room.vs hr)) (ev_word (ok__law_word_follows_lasso T ad) (hr.mono (by decide)) (by rfl) T.d__law_word.m T.d__law_word.k T.d__law_word.b (by rfl) T.d_follows_lasso.m (av_cons (ev_var 4 (pv 4)) (av_cons (ev_tup (av_cons ev_str (av_cons (ev_tup av_nil) (av_cons (ev_tup av_nil) av_nil)))) av_nil))) ev_str (nomark _))))))))))))))))))))
end
end K66

/-! K66d: the bag and the law, by hand. -/
namespace K66
open PySem PySem.Spec L2 RZ VC
open PyProof.Rows hiding St
section
variable {P : Program} {w : World} {K : PySem.W.Frag} {mg : Str → Option Value} {base : Heap}
theorem sc__law_bag : FnScope n__law_bag p__law_bag (defScope st__law_bag) := ⟨rfl, rfl, rfl, by decide +kernel, rfl, by decide +kernel, by decide +kernel⟩
theorem ok__law_bag (T : Txt K mg) : FnOk P w K mg base (L2.CX P w) 1 T.d__law_bag.f T.d__law_bag.fd p__law_bag (spBag K) := by
  refine T.d__law_bag.F.okX (k := 0) sc__law_bag (fun vs H Q E h => by obtain ⟨a, ns, k, rfl, _⟩ := h; rfl) fun cdv A outer s H vs Q E hr h => ?_
  obtain ⟨a, ns, k, rfl, hS, hk, q⟩ := h
  refine ⟨_, pss_cons (ps_set (i := 2) sc__law_bag.nd (by rfl) (Or.inl rfl) pe_int) (pss_cons (ps_if (pt_cmpR op_lt (pv 1) (pe_callB call_len_seq (by rfl) T.b_len PySem.boot_len (pa_cons (pv 0) pa_nil)) (nomark _)) (pss_one (ps_set (i := 2) sc__law_bag.nd (by rfl) (Or.inl rfl) (pe_callTy call_int1 (by rfl) T.b_int (by decide +kernel) (pa_cons (pe_ix ix_list (pv 0) (pv 1) (by intro _ _; rfl)) pa_nil)))) pss_nil)
    (pss_cons (ps_if (pt_cmpR op_ge (pv 2) (pe_op op_pow pe_int pe_int) (nomark _)) (pss_one (ps_ret (pe_lst (pa_cons (pv 2) (pa_cons (pv 2) (pa_cons (pv 1) pa_nil)))))) pss_nil) (pss_one (ps_ret (pe_lst (pa_cons pe_int (pa_cons (pv 2) (pa_cons (pv 1) pa_nil)))))))), ?_⟩
  have hpow : (10 : Int) ^ (18 : Int).toNat = 10 ^ 18 := rfl
  by_cases hlt : k < (ns.map V.int).length
  · have hlt' : k < ns.length := by simpa using hlt
    have hi : k.toNat < ns.length := by omega
    have hat : L2.atI (ns.map V.int) k = some (.int (ns.getD k.toNat 0)) := by
      unfold L2.atI ixN
      rw [if_pos hk, if_pos hlt]
      show (ns.map V.int)[k.toNat]? = _
      rw [List.getElem?_map, List.getElem?_eq_getElem hi, List.getD_eq_getElem?_getD, List.getElem?_eq_getElem hi]
      rfl
    have hc : cellAt ns k = ns.getD k.toNat 0 := by unfold cellAt; rw [if_pos hlt']
    refine ⟨.int k, rfl, .ref a, rfl, a, _, rfl, .inl hS, k, _, rfl, rfl, _, rfl, ?_⟩
    rw [decide_eq_true hlt]
    refine iteT ?_
    refine ⟨.ref a, rfl, .int k, rfl, a, _, k, _, rfl, rfl, hS, hat, .inl ⟨_, rfl, ?_⟩⟩
    refine ⟨.int (ns.getD k.toNat 0), rfl, 10, 18, rfl, rfl, ⟨by decide, by decide, by decide⟩, _, _, rfl, rfl, _, rfl, ?_⟩
    by_cases hge : (10 : Int) ^ (18 : Int).toNat ≤ ns.getD k.toNat 0
    · rw [decide_eq_true hge]
      refine iteT ?_
      have e : bagOf ns k = ⟨(ns.getD k.toNat 0, ns.getD k.toNat 0, k), []⟩ := by unfold bagOf; rw [hc, if_pos (show (10 : Int) ^ 18 ≤ _ from hge)]
      rw [e] at q
      exact ⟨_, rfl, _, rfl, _, rfl, by show 3 ≤ sizeLine; rw [sizeLine_eq]; decide, fun p hp => q p hp⟩
    · rw [decide_eq_false hge]
      refine iteF ?_
      have e : bagOf ns k = ⟨(0, ns.getD k.toNat 0, k), []⟩ := by unfold bagOf; rw [hc, if_neg (show ¬ (10 : Int) ^ 18 ≤ _ from hge)]
      rw [e] at q
      exact ⟨_, rfl, _, rfl, by show 3 ≤ sizeLine; rw [sizeLine_eq]; decide, fun p hp => q p hp⟩
  · have hlt' : ¬ k < ns.length := by simpa using hlt
    have hc : cellAt ns k = 0 := by unfold cellAt; rw [if_neg hlt']
    refine ⟨.int k, rfl, .ref a, rfl, a, _, rfl, .inl hS, k, _, rfl, rfl, _, rfl, ?_⟩
    rw [decide_eq_false hlt]
    refine iteF ?_
    refine ⟨.int 0, rfl, 10, 18, rfl, rfl, ⟨by decide, by decide, by decide⟩, _, _, rfl, rfl, _, rfl, ?_⟩
    have hge : ¬ (10 : Int) ^ (18 : Int).toNat ≤ 0 := by decide
    rw [decide_eq_false hge]
    refine iteF ?_
    have e : bagOf ns k = ⟨(0, 0, k), []⟩ := by unfold bagOf; rw [hc, if_neg (by decide)]
    rw [e] at q
    exact ⟨_, rfl, _, rfl, by show 3 ≤ sizeLine; rw [sizeLine_eq]; decide, fun p hp => q p hp⟩
theorem sc_law : FnScope n_law p_law (defScope st_law) := ⟨rfl, rfl, rfl, by decide +kernel, rfl, by decide +kernel, by decide +kernel⟩
theorem ok_law (T : Txt K mg) (hcase : ∀ (ns : List Int) (k : Int), 0 ≤ k → k < 3 → ∃ g', r__law_case [.bag] (bagOf ns k) = .ok (.bl true) g') :
    FnOk P w K mg base (L2.CX P w) 9 T.d_law.f T.d_law.fd p_law (spLaw K) := by
  refine T.d_law.F.okX (k := 8) sc_law (fun vs H Q E h => by obtain ⟨a, ns, rfl, _⟩ := h; rfl) fun cdv A outer s H vs Q E hr h => ?_
  obtain ⟨a, ns, rfl, hS, hlen, q⟩ := h
  refine ⟨_, pss_cons (ps_for (passes_of (by rfl)) (by rfl) (pi_range1 (by rfl) T.b_range (pa_cons (pe_callB (call_min2 (by rfl)) (by rfl) T.b_min (by decide +kernel) (pa_cons (pe_callB (call_max2 (by rfl)) (by rfl) T.b_max (by decide +kernel) (pa_cons (pe_callB call_len_seq (by rfl) T.b_len PySem.boot_len (pa_cons (pv 0) pa_nil)) (pa_cons pe_int pa_nil))) (pa_cons pe_int pa_nil))) pa_nil)) (pg_name (i := 1) sc_law.nd (by rfl) (Or.inl rfl))
    (pss_one (ps_if (pt_not (pt_val (pe_call (fn_all (fun ad => ok__law_case T ad) none) (hr.mono (by decide)) (by rfl) T.d__law_case.m T.d__law_case.k T.d__law_case.b .nil passL (pa_cons (pe_call (ok__law_bag T) (hr.mono (by decide)) (by rfl) T.d__law_bag.m T.d__law_bag.k T.d__law_bag.b .nil passL (pa_cons (pv 0) (pa_cons (pv 1) pa_nil))) pa_nil)))) (pss_one (ps_ret pe_bl)) pss_nil))) (pss_one (ps_ret pe_bl)), ?_⟩
  refine ⟨.ref a, rfl, a, _, rfl, .inl hS, _, 1, rfl, _, 3, rfl, _, rfl, ?_, ?_, ?_⟩
  · split <;> (try split) <;> omega
  · have : (ns.map V.int).length ≤ 63 := by simpa using hlen
    split <;> (try split) <;> omega
  · generalize hm : (if (3 : Int) < (if (1 : Int) > ((ns.map V.int).length : Int) then 1 else ((ns.map V.int).length : Int)) then (3 : Int) else (if (1 : Int) > ((ns.map V.int).length : Int) then 1 else ((ns.map V.int).length : Int))) = m
    have hm3 : m ≤ 3 := by rw [← hm]; split <;> (try split) <;> omega
    refine for_it (walk_range (lo := 0) (n := m.toNat)) (fun i σ H2 => (∃ x, σ = [some (.ref a), x]) ∧ SqL K H2 a (ns.map V.int)) ⟨⟨none, rfl⟩, hS⟩ (fun _ _ _ _ _ => trivial) ?_ ?_
    · rintro i x σ H2 H3 hi ⟨⟨y, rfl⟩, hS2⟩ ⟨rfl, rfl⟩
      refine ⟨.ref a, rfl, .int (0 + (i : Int)), rfl, a, ns, 0 + (i : Int), rfl, hS2, by omega, fun p hp => ?_⟩
      obtain ⟨g', hg'⟩ := hcase ns (0 + (i : Int)) (by omega) (by omega)
      refine ⟨some p, rfl, ⟨fun _ => False, []⟩, bagOf ns (0 + (i : Int)), [.bag], bag_ok rfl hp, .one ?_, ?_⟩
      · unfold R
        exact ⟨p, rfl, rfl⟩
      · rw [hg']
        intro v H4 F4 ex4 b4 r4
        rw [r_bl r4]
        refine ⟨true, rfl, ?_⟩
        refine iteF ?_
        refine ⟨⟨_, rfl⟩, sql_keep hS2 fun b o e => ex4.keep b o (by rw [upd_ne (ne_of_none e hp)]; exact e) (fun z => ?_) (fun z => by cases z)⟩
        cases z
        rw [hp] at e
        cases e
    · rintro σ H2 _
      exact q H2

end
end K66

/-! K66e: what the top has written. -/
namespace K66
open PySem PySem.Spec L2 RZ VC
open PyProof.Rows hiding St
theorem all_mk {P : Program} {w : World} {K : PySem.W.Frag} {h : Heap} {mg : Str → Option Value} {fa : Addr} (X : K.In h) (G : h.Ns mainGlobals mg) (hfa : mg "law" = some (.ref fa))
    {f0 : Addr} {oc0 kV0 dc0 pm0 cd0 ct0 : Value} {od0 an0 : Option Addr} {sl0 : Array (Option Value)}
    {f1 : Addr} {oc1 kV1 dc1 pm1 cd1 ct1 : Value} {od1 an1 : Option Addr} {sl1 : Array (Option Value)}
    {f2 : Addr} {oc2 kV2 dc2 pm2 cd2 ct2 : Value} {od2 an2 : Option Addr} {sl2 : Array (Option Value)}
    {f3 : Addr} {oc3 kV3 dc3 pm3 cd3 ct3 : Value} {od3 an3 : Option Addr} {sl3 : Array (Option Value)}
    {f4 : Addr} {oc4 kV4 dc4 pm4 cd4 ct4 : Value} {od4 an4 : Option Addr} {sl4 : Array (Option Value)}
    {f5 : Addr} {oc5 kV5 dc5 pm5 cd5 ct5 : Value} {od5 an5 : Option Addr} {sl5 : Array (Option Value)}
    {f6 : Addr} {oc6 kV6 dc6 pm6 cd6 ct6 : Value} {od6 an6 : Option Addr} {sl6 : Array (Option Value)}
    {f7 : Addr} {oc7 kV7 dc7 pm7 cd7 ct7 : Value} {od7 an7 : Option Addr} {sl7 : Array (Option Value)}
    {f8 : Addr} {oc8 kV8 dc8 pm8 cd8 ct8 : Value} {od8 an8 : Option Addr} {sl8 : Array (Option Value)}
    {f9 : Addr} {oc9 kV9 dc9 pm9 cd9 ct9 : Value} {od9 an9 : Option Addr} {sl9 : Array (Option Value)}
    {f10 : Addr} {oc10 kV10 dc10 pm10 cd10 ct10 : Value} {od10 an10 : Option Addr} {sl10 : Array (Option Value)}
    {f11 : Addr} {oc11 kV11 dc11 pm11 cd11 ct11 : Value} {od11 an11 : Option Addr} {sl11 : Array (Option Value)}
    {f12 : Addr} {oc12 kV12 dc12 pm12 cd12 ct12 : Value} {od12 an12 : Option Addr} {sl12 : Array (Option Value)}
    {f13 : Addr} {oc13 kV13 dc13 pm13 cd13 ct13 : Value} {od13 an13 : Option Addr} {sl13 : Array (Option Value)}
    {f14 : Addr} {oc14 kV14 dc14 pm14 cd14 ct14 : Value} {od14 an14 : Option Addr} {sl14 : Array (Option Value)}
    {f15 : Addr} {oc15 kV15 dc15 pm15 cd15 ct15 : Value} {od15 an15 : Option Addr} {sl15 : Array (Option Value)}
    {f16 : Addr} {oc16 kV16 dc16 pm16 cd16 ct16 : Value} {od16 an16 : Option Addr} {sl16 : Array (Option Value)}
    {f17 : Addr} {oc17 kV17 dc17 pm17 cd17 ct17 : Value} {od17 an17 : Option Addr} {sl17 : Array (Option Value)}
    {f18 : Addr} {oc18 kV18 dc18 pm18 cd18 ct18 : Value} {od18 an18 : Option Addr} {sl18 : Array (Option Value)}
    {f19 : Addr} {oc19 kV19 dc19 pm19 cd19 ct19 : Value} {od19 an19 : Option Addr} {sl19 : Array (Option Value)}
    {f20 : Addr} {oc20 kV20 dc20 pm20 cd20 ct20 : Value} {od20 an20 : Option Addr} {sl20 : Array (Option Value)}
    {f21 : Addr} {oc21 kV21 dc21 pm21 cd21 ct21 : Value} {od21 an21 : Option Addr} {sl21 : Array (Option Value)}
    {f22 : Addr} {oc22 kV22 dc22 pm22 cd22 ct22 : Value} {od22 an22 : Option Addr} {sl22 : Array (Option Value)}
    {f23 : Addr} {oc23 kV23 dc23 pm23 cd23 ct23 : Value} {od23 an23 : Option Addr} {sl23 : Array (Option Value)}
    {f24 : Addr} {oc24 kV24 dc24 pm24 cd24 ct24 : Value} {od24 an24 : Option Addr} {sl24 : Array (Option Value)}
    {f25 : Addr} {oc25 kV25 dc25 pm25 cd25 ct25 : Value} {od25 an25 : Option Addr} {sl25 : Array (Option Value)}
    {f26 : Addr} {oc26 kV26 dc26 pm26 cd26 ct26 : Value} {od26 an26 : Option Addr} {sl26 : Array (Option Value)}
    {f27 : Addr} {oc27 kV27 dc27 pm27 cd27 ct27 : Value} {od27 an27 : Option Addr} {sl27 : Array (Option Value)}
    {f28 : Addr} {oc28 kV28 dc28 pm28 cd28 ct28 : Value} {od28 an28 : Option Addr} {sl28 : Array (Option Value)}
    {f29 : Addr} {oc29 kV29 dc29 pm29 cd29 ct29 : Value} {od29 an29 : Option Addr} {sl29 : Array (Option Value)}
    {C30 f30 N30 : Addr} {nm30 q30 : Str} {bs30 bm30 sub30 : List Value} {sn30 : List Str} {ab30 : Bool} {col30 : Option Bool} {dd30 : Option Addr} {m030 m130 m230 m330 m530 : Option Value} {oc30 kV30 dc30 pm30 cd30 ct30 : Value} {od30 an30 : Option Addr} {sl30 : Array (Option Value)}
    {C31 : Addr}
    {t_MOST_TRACKS : Tok}
    {p_POWERS : Addr} {o_POWERS : Option Addr} {n_POWERS : Nat} {s_POWERS : Array (Option Value)} {u_POWERS0 u_POWERS1 u_POWERS2 u_POWERS3 u_POWERS4 : Tok}
    (a0 : PySem.W.nsIn K mainGlobals "is_integer" = some (some (.ref f0)))
    (l0 : K.lookup f0 = some ⟨oc0, od0, .func (PySem.W.fnOf "is_integer" "is_integer" (defArgs st_is_integer) (defBody st_is_integer) (defScope st_is_integer) .none kV0 dc0 pm0 an0 cd0 ct0), sl0⟩)
    (c0 : PySem.W.codeIn K cd0 "is_integer" = true)
    (k0 : PySem.W.keepIn K (.ref f0) = true)
    (a1 : PySem.W.nsIn K mainGlobals "is_word" = some (some (.ref f1)))
    (l1 : K.lookup f1 = some ⟨oc1, od1, .func (PySem.W.fnOf "is_word" "is_word" (defArgs st_is_word) (defBody st_is_word) (defScope st_is_word) .none kV1 dc1 pm1 an1 cd1 ct1), sl1⟩)
    (c1 : PySem.W.codeIn K cd1 "is_word" = true)
    (k1 : PySem.W.keepIn K (.ref f1) = true)
    (a2 : PySem.W.nsIn K mainGlobals "is_lasso" = some (some (.ref f2)))
    (l2 : K.lookup f2 = some ⟨oc2, od2, .func (PySem.W.fnOf "is_lasso" "is_lasso" (defArgs st_is_lasso) (defBody st_is_lasso) (defScope st_is_lasso) .none kV2 dc2 pm2 an2 cd2 ct2), sl2⟩)
    (c2 : PySem.W.codeIn K cd2 "is_lasso" = true)
    (k2 : PySem.W.keepIn K (.ref f2) = true)
    (a3 : PySem.W.nsIn K mainGlobals "has_head" = some (some (.ref f3)))
    (l3 : K.lookup f3 = some ⟨oc3, od3, .func (PySem.W.fnOf "has_head" "has_head" (defArgs st_has_head) (defBody st_has_head) (defScope st_has_head) .none kV3 dc3 pm3 an3 cd3 ct3), sl3⟩)
    (c3 : PySem.W.codeIn K cd3 "has_head" = true)
    (k3 : PySem.W.keepIn K (.ref f3) = true)
    (a4 : PySem.W.nsIn K mainGlobals "is_answer" = some (some (.ref f4)))
    (l4 : K.lookup f4 = some ⟨oc4, od4, .func (PySem.W.fnOf "is_answer" "is_answer" (defArgs st_is_answer) (defBody st_is_answer) (defScope st_is_answer) .none kV4 dc4 pm4 an4 cd4 ct4), sl4⟩)
    (c4 : PySem.W.codeIn K cd4 "is_answer" = true)
    (k4 : PySem.W.keepIn K (.ref f4) = true)
    (a5 : PySem.W.nsIn K mainGlobals "is_machine" = some (some (.ref f5)))
    (l5 : K.lookup f5 = some ⟨oc5, od5, .func (PySem.W.fnOf "is_machine" "is_machine" (defArgs st_is_machine) (defBody st_is_machine) (defScope st_is_machine) .none kV5 dc5 pm5 an5 cd5 ct5), sl5⟩)
    (c5 : PySem.W.codeIn K cd5 "is_machine" = true)
    (k5 : PySem.W.keepIn K (.ref f5) = true)
    (a6 : PySem.W.nsIn K mainGlobals "is_breaker" = some (some (.ref f6)))
    (l6 : K.lookup f6 = some ⟨oc6, od6, .func (PySem.W.fnOf "is_breaker" "is_breaker" (defArgs st_is_breaker) (defBody st_is_breaker) (defScope st_is_breaker) .none kV6 dc6 pm6 an6 cd6 ct6), sl6⟩)
    (c6 : PySem.W.codeIn K cd6 "is_breaker" = true)
    (k6 : PySem.W.keepIn K (.ref f6) = true)
    (a7 : PySem.W.nsIn K mainGlobals "classes_of" = some (some (.ref f7)))
    (l7 : K.lookup f7 = some ⟨oc7, od7, .func (PySem.W.fnOf "classes_of" "classes_of" (defArgs st_classes_of) (defBody st_classes_of) (defScope st_classes_of) .none kV7 dc7 pm7 an7 cd7 ct7), sl7⟩)
    (c7 : PySem.W.codeIn K cd7 "classes_of" = true)
    (k7 : PySem.W.keepIn K (.ref f7) = true)
    (a8 : PySem.W.nsIn K mainGlobals "numbered" = some (some (.ref f8)))
    (l8 : K.lookup f8 = some ⟨oc8, od8, .func (PySem.W.fnOf "numbered" "numbered" (defArgs st_numbered) (defBody st_numbered) (defScope st_numbered) .none kV8 dc8 pm8 an8 cd8 ct8), sl8⟩)
    (c8 : PySem.W.codeIn K cd8 "numbered" = true)
    (k8 : PySem.W.keepIn K (.ref f8) = true)
    (a9 : PySem.W.nsIn K mainGlobals "reduced" = some (some (.ref f9)))
    (l9 : K.lookup f9 = some ⟨oc9, od9, .func (PySem.W.fnOf "reduced" "reduced" (defArgs st_reduced) (defBody st_reduced) (defScope st_reduced) .none kV9 dc9 pm9 an9 cd9 ct9), sl9⟩)
    (c9 : PySem.W.codeIn K cd9 "reduced" = true)
    (k9 : PySem.W.keepIn K (.ref f9) = true)
    (a10 : PySem.W.nsIn K mainGlobals "letters_of" = some (some (.ref f10)))
    (l10 : K.lookup f10 = some ⟨oc10, od10, .func (PySem.W.fnOf "letters_of" "letters_of" (defArgs st_letters_of) (defBody st_letters_of) (defScope st_letters_of) .none kV10 dc10 pm10 an10 cd10 ct10), sl10⟩)
    (c10 : PySem.W.codeIn K cd10 "letters_of" = true)
    (k10 : PySem.W.keepIn K (.ref f10) = true)
    (a11 : PySem.W.nsIn K mainGlobals "answers" = some (some (.ref f11)))
    (l11 : K.lookup f11 = some ⟨oc11, od11, .func (PySem.W.fnOf "answers" "answers" (defArgs st_answers) (defBody st_answers) (defScope st_answers) .none kV11 dc11 pm11 an11 cd11 ct11), sl11⟩)
    (c11 : PySem.W.codeIn K cd11 "answers" = true)
    (k11 : PySem.W.keepIn K (.ref f11) = true)
    (a12 : PySem.W.nsIn K mainGlobals "meets" = some (some (.ref f12)))
    (l12 : K.lookup f12 = some ⟨oc12, od12, .func (PySem.W.fnOf "meets" "meets" (defArgs st_meets) (defBody st_meets) (defScope st_meets) .none kV12 dc12 pm12 an12 cd12 ct12), sl12⟩)
    (c12 : PySem.W.codeIn K cd12 "meets" = true)
    (k12 : PySem.W.keepIn K (.ref f12) = true)
    (a13 : PySem.W.nsIn K mainGlobals "look_at" = some (some (.ref f13)))
    (l13 : K.lookup f13 = some ⟨oc13, od13, .func (PySem.W.fnOf "look_at" "look_at" (defArgs st_look_at) (defBody st_look_at) (defScope st_look_at) .none kV13 dc13 pm13 an13 cd13 ct13), sl13⟩)
    (c13 : PySem.W.codeIn K cd13 "look_at" = true)
    (k13 : PySem.W.keepIn K (.ref f13) = true)
    (a14 : PySem.W.nsIn K mainGlobals "place_behind" = some (some (.ref f14)))
    (l14 : K.lookup f14 = some ⟨oc14, od14, .func (PySem.W.fnOf "place_behind" "place_behind" (defArgs st_place_behind) (defBody st_place_behind) (defScope st_place_behind) .none kV14 dc14 pm14 an14 cd14 ct14), sl14⟩)
    (c14 : PySem.W.codeIn K cd14 "place_behind" = true)
    (k14 : PySem.W.keepIn K (.ref f14) = true)
    (a15 : PySem.W.nsIn K mainGlobals "follows" = some (some (.ref f15)))
    (l15 : K.lookup f15 = some ⟨oc15, od15, .func (PySem.W.fnOf "follows" "follows" (defArgs st_follows) (defBody st_follows) (defScope st_follows) .none kV15 dc15 pm15 an15 cd15 ct15), sl15⟩)
    (c15 : PySem.W.codeIn K cd15 "follows" = true)
    (k15 : PySem.W.keepIn K (.ref f15) = true)
    (a16 : PySem.W.nsIn K mainGlobals "follows_lasso" = some (some (.ref f16)))
    (l16 : K.lookup f16 = some ⟨oc16, od16, .func (PySem.W.fnOf "follows_lasso" "follows_lasso" (defArgs st_follows_lasso) (defBody st_follows_lasso) (defScope st_follows_lasso) .none kV16 dc16 pm16 an16 cd16 ct16), sl16⟩)
    (c16 : PySem.W.codeIn K cd16 "follows_lasso" = true)
    (k16 : PySem.W.keepIn K (.ref f16) = true)
    (a17 : PySem.W.nsIn K mainGlobals "_law_bag" = some (some (.ref f17)))
    (l17 : K.lookup f17 = some ⟨oc17, od17, .func (PySem.W.fnOf "_law_bag" "_law_bag" (defArgs st__law_bag) (defBody st__law_bag) (defScope st__law_bag) .none kV17 dc17 pm17 an17 cd17 ct17), sl17⟩)
    (c17 : PySem.W.codeIn K cd17 "_law_bag" = true)
    (k17 : PySem.W.keepIn K (.ref f17) = true)
    (a18 : PySem.W.nsIn K mainGlobals "_law_draw" = some (some (.ref f18)))
    (l18 : K.lookup f18 = some ⟨oc18, od18, .func (PySem.W.fnOf "_law_draw" "_law_draw" (defArgs st__law_draw) (defBody st__law_draw) (defScope st__law_draw) .none kV18 dc18 pm18 an18 cd18 ct18), sl18⟩)
    (c18 : PySem.W.codeIn K cd18 "_law_draw" = true)
    (k18 : PySem.W.keepIn K (.ref f18) = true)
    (a19 : PySem.W.nsIn K mainGlobals "_law_machine" = some (some (.ref f19)))
    (l19 : K.lookup f19 = some ⟨oc19, od19, .func (PySem.W.fnOf "_law_machine" "_law_machine" (defArgs st__law_machine) (defBody st__law_machine) (defScope st__law_machine) .none kV19 dc19 pm19 an19 cd19 ct19), sl19⟩)
    (c19 : PySem.W.codeIn K cd19 "_law_machine" = true)
    (k19 : PySem.W.keepIn K (.ref f19) = true)
    (a20 : PySem.W.nsIn K mainGlobals "_law_breaker" = some (some (.ref f20)))
    (l20 : K.lookup f20 = some ⟨oc20, od20, .func (PySem.W.fnOf "_law_breaker" "_law_breaker" (defArgs st__law_breaker) (defBody st__law_breaker) (defScope st__law_breaker) .none kV20 dc20 pm20 an20 cd20 ct20), sl20⟩)
    (c20 : PySem.W.codeIn K cd20 "_law_breaker" = true)
    (k20 : PySem.W.keepIn K (.ref f20) = true)
    (a21 : PySem.W.nsIn K mainGlobals "_law_next" = some (some (.ref f21)))
    (l21 : K.lookup f21 = some ⟨oc21, od21, .func (PySem.W.fnOf "_law_next" "_law_next" (defArgs st__law_next) (defBody st__law_next) (defScope st__law_next) .none kV21 dc21 pm21 an21 cd21 ct21), sl21⟩)
    (c21 : PySem.W.codeIn K cd21 "_law_next" = true)
    (k21 : PySem.W.keepIn K (.ref f21) = true)
    (a22 : PySem.W.nsIn K mainGlobals "_law_follows" = some (some (.ref f22)))
    (l22 : K.lookup f22 = some ⟨oc22, od22, .func (PySem.W.fnOf "_law_follows" "_law_follows" (defArgs st__law_follows) (defBody st__law_follows) (defScope st__law_follows) .none kV22 dc22 pm22 an22 cd22 ct22), sl22⟩)
    (c22 : PySem.W.codeIn K cd22 "_law_follows" = true)
    (k22 : PySem.W.keepIn K (.ref f22) = true)
    (a23 : PySem.W.nsIn K mainGlobals "_law_alike" = some (some (.ref f23)))
    (l23 : K.lookup f23 = some ⟨oc23, od23, .func (PySem.W.fnOf "_law_alike" "_law_alike" (defArgs st__law_alike) (defBody st__law_alike) (defScope st__law_alike) .none kV23 dc23 pm23 an23 cd23 ct23), sl23⟩)
    (c23 : PySem.W.codeIn K cd23 "_law_alike" = true)
    (k23 : PySem.W.keepIn K (.ref f23) = true)
    (a24 : PySem.W.nsIn K mainGlobals "_law_reduced" = some (some (.ref f24)))
    (l24 : K.lookup f24 = some ⟨oc24, od24, .func (PySem.W.fnOf "_law_reduced" "_law_reduced" (defArgs st__law_reduced) (defBody st__law_reduced) (defScope st__law_reduced) .none kV24 dc24 pm24 an24 cd24 ct24), sl24⟩)
    (c24 : PySem.W.codeIn K cd24 "_law_reduced" = true)
    (k24 : PySem.W.keepIn K (.ref f24) = true)
    (a25 : PySem.W.nsIn K mainGlobals "_law_word" = some (some (.ref f25)))
    (l25 : K.lookup f25 = some ⟨oc25, od25, .func (PySem.W.fnOf "_law_word" "_law_word" (defArgs st__law_word) (defBody st__law_word) (defScope st__law_word) .none kV25 dc25 pm25 an25 cd25 ct25), sl25⟩)
    (c25 : PySem.W.codeIn K cd25 "_law_word" = true)
    (k25 : PySem.W.keepIn K (.ref f25) = true)
    (a26 : PySem.W.nsIn K mainGlobals "_law_meeting" = some (some (.ref f26)))
    (l26 : K.lookup f26 = some ⟨oc26, od26, .func (PySem.W.fnOf "_law_meeting" "_law_meeting" (defArgs st__law_meeting) (defBody st__law_meeting) (defScope st__law_meeting) .none kV26 dc26 pm26 an26 cd26 ct26), sl26⟩)
    (c26 : PySem.W.codeIn K cd26 "_law_meeting" = true)
    (k26 : PySem.W.keepIn K (.ref f26) = true)
    (a27 : PySem.W.nsIn K mainGlobals "_law_wrong" = some (some (.ref f27)))
    (l27 : K.lookup f27 = some ⟨oc27, od27, .func (PySem.W.fnOf "_law_wrong" "_law_wrong" (defArgs st__law_wrong) (defBody st__law_wrong) (defScope st__law_wrong) .none kV27 dc27 pm27 an27 cd27 ct27), sl27⟩)
    (c27 : PySem.W.codeIn K cd27 "_law_wrong" = true)
    (k27 : PySem.W.keepIn K (.ref f27) = true)
    (a28 : PySem.W.nsIn K mainGlobals "_law_case" = some (some (.ref f28)))
    (l28 : K.lookup f28 = some ⟨oc28, od28, .func (PySem.W.fnOf "_law_case" "_law_case" (defArgs st__law_case) (defBody st__law_case) (defScope st__law_case) .none kV28 dc28 pm28 an28 cd28 ct28), sl28⟩)
    (c28 : PySem.W.codeIn K cd28 "_law_case" = true)
    (k28 : PySem.W.keepIn K (.ref f28) = true)
    (a29 : PySem.W.nsIn K mainGlobals "law" = some (some (.ref f29)))
    (l29 : K.lookup f29 = some ⟨oc29, od29, .func (PySem.W.fnOf "law" "law" (defArgs st_law) (defBody st_law) (defScope st_law) .none kV29 dc29 pm29 an29 cd29 ct29), sl29⟩)
    (c29 : PySem.W.codeIn K cd29 "law" = true)
    (k29 : PySem.W.keepIn K (.ref f29) = true)
    (aC30 : PySem.W.nsIn K mainGlobals "BadMachine" = some (some (.ref C30)))
    (xL30 : K.lookup C30 = some (PySem.excClassObj nm30 q30 C30 N30 bs30 bm30 true sn30 sub30 ab30 col30 dd30 m030 m130 m230 m330 m530 "ValueError.__new__"))
    (rb30 : HandSPX.refsVE bm30 = true)
    (sa30 : PySem.W.findIn K (.ref C30) "__setattr__" = some (some (.builtin "object.__setattr__")))
    (ga30 : PySem.W.findIn K (.ref C30) "__getattribute__" = some (some (.builtin "BaseException.__getattribute__")))
    (gg30 : PySem.W.findIn K (.ref C30) "__getattr__" = some none)
    (nb30 : PySem.W.findIn K (.ref C30) "place" = some none)
    (ai30 : PySem.W.findIn K (.ref C30) "__init__" = some (some (.ref f30)))
    (ti30 : PySem.W.typeIn K (.ref f30) = some (.type "function"))
    (l30 : K.lookup f30 = some ⟨oc30, od30, .func (PySem.W.fnOf "__init__" "BadMachine.__init__" (defArgs st_ini_BadMachine) (defBody st_ini_BadMachine) (defScope st_ini_BadMachine) .none kV30 dc30 pm30 an30 cd30 ct30), sl30⟩)
    (c30 : PySem.W.codeIn K cd30 "BadMachine.__init__" = true)
    (k30 : PySem.W.keepIn K (.ref f30) = true)
    (kC30 : PySem.W.keepIn K (.ref C30) = true)
    (eC30 : PySem.W.subIn K (.ref C30) (.type "BaseException") = some true)
    (tC30 : PySem.W.typeIn K (.ref C30) = some (.type "type"))
    (hC30 : PySem.W.hasDictIn K C30 = true)
    (ss30 : PySem.W.subIn K (.ref C30) (.ref C30) = some true)
    (aC31 : PySem.W.nsIn K mainGlobals "BadWord" = some (some (.ref C31)))
    (q31 : PySem.W.excIn K C31 [.type "ValueError", .type "Exception", .type "BaseException", .type "object"] "ValueError.__new__" = true)
    (kC31 : PySem.W.keepIn K (.ref C31) = true)
    (eC31 : PySem.W.subIn K (.ref C31) (.type "BaseException") = some true)
    (tC31 : PySem.W.typeIn K (.ref C31) = some (.type "type"))
    (hC31 : PySem.W.hasDictIn K C31 = true)
    (ss31 : PySem.W.subIn K (.ref C31) (.ref C31) = some true)
    (z_all : PySem.W.nsIn K mainGlobals "all" = some none)
    (z_bool : PySem.W.nsIn K mainGlobals "bool" = some none)
    (z_enumerate : PySem.W.nsIn K mainGlobals "enumerate" = some none)
    (z_int : PySem.W.nsIn K mainGlobals "int" = some none)
    (z_isinstance : PySem.W.nsIn K mainGlobals "isinstance" = some none)
    (z_len : PySem.W.nsIn K mainGlobals "len" = some none)
    (z_list : PySem.W.nsIn K mainGlobals "list" = some none)
    (z_max : PySem.W.nsIn K mainGlobals "max" = some none)
    (z_min : PySem.W.nsIn K mainGlobals "min" = some none)
    (z_range : PySem.W.nsIn K mainGlobals "range" = some none)
    (z_tuple : PySem.W.nsIn K mainGlobals "tuple" = some none)
    (g_MOST_TRACKS : PySem.W.nsIn K mainGlobals "MOST_TRACKS" = some (some (.int 4 t_MOST_TRACKS)))
    (g_POWERS : PySem.W.nsIn K mainGlobals "POWERS" = some (some (.ref p_POWERS)))
    (l_POWERS : K.lookup p_POWERS = some ⟨.type "tuple", o_POWERS, .seq #[.int 1 u_POWERS0, .int 2 u_POWERS1, .int 4 u_POWERS2, .int 8 u_POWERS3, .int 16 u_POWERS4] n_POWERS, s_POWERS⟩)
    (no10 : PySem.W.subIn K (.ref C31) (.ref C30) = some false)
    (hcase : ∀ (ns : List Int) (k : Int), 0 ≤ k → k < 3 → ∃ g', r__law_case [.bag] (bagOf ns k) = .ok (.bl true) g') :
    ∃ fd : FuncData, (∀ (s : Shared) (v : Value), BindsTo s fd ⟨[v], []⟩ [("script", v)]) ∧ ∀ base : Heap, K.In base → base.Ns mainGlobals mg → FnOk P w K mg base (L2.CX P w) 9 fa fd ["script"] (spLaw K) := by
  have e := hfa.symm.trans (PySem.W.mg_of X G a29)
  cases e
  have F0 := fun_mk (st := st_is_integer) l0 c0 k0
  have b0 := F0.binds (ps := p_is_integer) fun _ _ _ _ _ _ us hl => match us, hl with | [_, _, _], _ => rfl
  have F1 := fun_mk (st := st_is_word) l1 c1 k1
  have b1 := F1.binds (ps := p_is_word) fun _ _ _ _ _ _ us hl => match us, hl with | [_, _], _ => rfl
  have F2 := fun_mk (st := st_is_lasso) l2 c2 k2
  have b2 := F2.binds (ps := p_is_lasso) fun _ _ _ _ _ _ us hl => match us, hl with | [_, _], _ => rfl
  have F3 := fun_mk (st := st_has_head) l3 c3 k3
  have b3 := F3.binds (ps := p_has_head) fun _ _ _ _ _ _ us hl => match us, hl with | [_, _], _ => rfl
  have F4 := fun_mk (st := st_is_answer) l4 c4 k4
  have b4 := F4.binds (ps := p_is_answer) fun _ _ _ _ _ _ us hl => match us, hl with | [_, _, _], _ => rfl
  have F5 := fun_mk (st := st_is_machine) l5 c5 k5
  have b5 := F5.binds (ps := p_is_machine) fun _ _ _ _ _ _ us hl => match us, hl with | [_], _ => rfl
  have F6 := fun_mk (st := st_is_breaker) l6 c6 k6
  have b6 := F6.binds (ps := p_is_breaker) fun _ _ _ _ _ _ us hl => match us, hl with | [_], _ => rfl
  have F7 := fun_mk (st := st_classes_of) l7 c7 k7
  have b7 := F7.binds (ps := p_classes_of) fun _ _ _ _ _ _ us hl => match us, hl with | [_], _ => rfl
  have F8 := fun_mk (st := st_numbered) l8 c8 k8
  have b8 := F8.binds (ps := p_numbered) fun _ _ _ _ _ _ us hl => match us, hl with | [_, _], _ => rfl
  have F9 := fun_mk (st := st_reduced) l9 c9 k9
  have b9 := F9.binds (ps := p_reduced) fun _ _ _ _ _ _ us hl => match us, hl with | [_], _ => rfl
  have F10 := fun_mk (st := st_letters_of) l10 c10 k10
  have b10 := F10.binds (ps := p_letters_of) fun _ _ _ _ _ _ us hl => match us, hl with | [_, _], _ => rfl
  have F11 := fun_mk (st := st_answers) l11 c11 k11
  have b11 := F11.binds (ps := p_answers) fun _ _ _ _ _ _ us hl => match us, hl with | [_, _], _ => rfl
  have F12 := fun_mk (st := st_meets) l12 c12 k12
  have b12 := F12.binds (ps := p_meets) fun _ _ _ _ _ _ us hl => match us, hl with | [_, _], _ => rfl
  have F13 := fun_mk (st := st_look_at) l13 c13 k13
  have b13 := F13.binds (ps := p_look_at) fun _ _ _ _ _ _ us hl => match us, hl with | [_], _ => rfl
  have F14 := fun_mk (st := st_place_behind) l14 c14 k14
  have b14 := F14.binds (ps := p_place_behind) fun _ _ _ _ _ _ us hl => match us, hl with | [_, _, _], _ => rfl
  have F15 := fun_mk (st := st_follows) l15 c15 k15
  have b15 := F15.binds (ps := p_follows) fun _ _ _ _ _ _ us hl => match us, hl with | [_, _], _ => rfl
  have F16 := fun_mk (st := st_follows_lasso) l16 c16 k16
  have b16 := F16.binds (ps := p_follows_lasso) fun _ _ _ _ _ _ us hl => match us, hl with | [_, _], _ => rfl
  have F17 := fun_mk (st := st__law_bag) l17 c17 k17
  have b17 := F17.binds (ps := p__law_bag) fun _ _ _ _ _ _ us hl => match us, hl with | [_, _], _ => rfl
  have F18 := fun_mk (st := st__law_draw) l18 c18 k18
  have b18 := F18.binds (ps := p__law_draw) fun _ _ _ _ _ _ us hl => match us, hl with | [_, _], _ => rfl
  have F19 := fun_mk (st := st__law_machine) l19 c19 k19
  have b19 := F19.binds (ps := p__law_machine) fun _ _ _ _ _ _ us hl => match us, hl with | [_, _, _, _], _ => rfl
  have F20 := fun_mk (st := st__law_breaker) l20 c20 k20
  have b20 := F20.binds (ps := p__law_breaker) fun _ _ _ _ _ _ us hl => match us, hl with | [_, _, _], _ => rfl
  have F21 := fun_mk (st := st__law_next) l21 c21 k21
  have b21 := F21.binds (ps := p__law_next) fun _ _ _ _ _ _ us hl => match us, hl with | [_, _, _], _ => rfl
  have F22 := fun_mk (st := st__law_follows) l22 c22 k22
  have b22 := F22.binds (ps := p__law_follows) fun _ _ _ _ _ _ us hl => match us, hl with | [_, _], _ => rfl
  have F23 := fun_mk (st := st__law_alike) l23 c23 k23
  have b23 := F23.binds (ps := p__law_alike) fun _ _ _ _ _ _ us hl => match us, hl with | [_, _, _, _], _ => rfl
  have F24 := fun_mk (st := st__law_reduced) l24 c24 k24
  have b24 := F24.binds (ps := p__law_reduced) fun _ _ _ _ _ _ us hl => match us, hl with | [_], _ => rfl
  have F25 := fun_mk (st := st__law_word) l25 c25 k25
  have b25 := F25.binds (ps := p__law_word) fun _ _ _ _ _ _ us hl => match us, hl with | [_, _, _], _ => rfl
  have F26 := fun_mk (st := st__law_meeting) l26 c26 k26
  have b26 := F26.binds (ps := p__law_meeting) fun _ _ _ _ _ _ us hl => match us, hl with | [_, _], _ => rfl
  have F27 := fun_mk (st := st__law_wrong) l27 c27 k27
  have b27 := F27.binds (ps := p__law_wrong) fun _ _ _ _ _ _ us hl => match us, hl with | [_, _, _], _ => rfl
  have F28 := fun_mk (st := st__law_case) l28 c28 k28
  have b28 := F28.binds (ps := p__law_case) fun _ _ _ _ _ _ us hl => match us, hl with | [_], _ => rfl
  have F29 := fun_mk (st := st_law) l29 c29 k29
  have b29 := F29.binds (ps := p_law) fun _ _ _ _ _ _ us hl => match us, hl with | [_], _ => rfl
  have F30 := fun_mk (st := st_ini_BadMachine) l30 c30 k30
  have b30 := F30.binds (ps := ["self", "place"]) fun _ _ _ _ _ _ us hl => match us, hl with | [_, _], _ => rfl
  exact ⟨_, fun s v => .of_eq rfl, fun base _ _ => ok_law { d_is_integer := ⟨_, _, F0, b0, PySem.W.mg_of X G a0, k0⟩, d_is_word := ⟨_, _, F1, b1, PySem.W.mg_of X G a1, k1⟩, d_is_lasso := ⟨_, _, F2, b2, PySem.W.mg_of X G a2, k2⟩, d_has_head := ⟨_, _, F3, b3, PySem.W.mg_of X G a3, k3⟩, d_is_answer := ⟨_, _, F4, b4, PySem.W.mg_of X G a4, k4⟩, d_is_machine := ⟨_, _, F5, b5, PySem.W.mg_of X G a5, k5⟩, d_is_breaker := ⟨_, _, F6, b6, PySem.W.mg_of X G a6, k6⟩, d_classes_of := ⟨_, _, F7, b7, PySem.W.mg_of X G a7, k7⟩, d_numbered := ⟨_, _, F8, b8, PySem.W.mg_of X G a8, k8⟩, d_reduced := ⟨_, _, F9, b9, PySem.W.mg_of X G a9, k9⟩, d_letters_of := ⟨_, _, F10, b10, PySem.W.mg_of X G a10, k10⟩, d_answers := ⟨_, _, F11, b11, PySem.W.mg_of X G a11, k11⟩, d_meets := ⟨_, _, F12, b12, PySem.W.mg_of X G a12, k12⟩, d_look_at := ⟨_, _, F13, b13, PySem.W.mg_of X G a13, k13⟩, d_place_behind := ⟨_, _, F14, b14, PySem.W.mg_of X G a14, k14⟩, d_follows := ⟨_, _, F15, b15, PySem.W.mg_of X G a15, k15⟩, d_follows_lasso := ⟨_, _, F16, b16, PySem.W.mg_of X G a16, k16⟩, d__law_bag := ⟨_, _, F17, b17, PySem.W.mg_of X G a17, k17⟩, d__law_draw := ⟨_, _, F18, b18, PySem.W.mg_of X G a18, k18⟩, d__law_machine := ⟨_, _, F19, b19, PySem.W.mg_of X G a19, k19⟩, d__law_breaker := ⟨_, _, F20, b20, PySem.W.mg_of X G a20, k20⟩, d__law_next := ⟨_, _, F21, b21, PySem.W.mg_of X G a21, k21⟩, d__law_follows := ⟨_, _, F22, b22, PySem.W.mg_of X G a22, k22⟩, d__law_alike := ⟨_, _, F23, b23, PySem.W.mg_of X G a23, k23⟩, d__law_reduced := ⟨_, _, F24, b24, PySem.W.mg_of X G a24, k24⟩, d__law_word := ⟨_, _, F25, b25, PySem.W.mg_of X G a25, k25⟩, d__law_meeting := ⟨_, _, F26, b26, PySem.W.mg_of X G a26, k26⟩, d__law_wrong := ⟨_, _, F27, b27, PySem.W.mg_of X G a27, k27⟩, d__law_case := ⟨_, _, F28, b28, PySem.W.mg_of X G a28, k28⟩, d_law := ⟨_, _, F29, b29, PySem.W.mg_of X G a29, k29⟩, x_BadMachine := ⟨C30, f30, _, ⟨⟨nm30, q30, N30, bs30, bm30, sn30, sub30, ab30, col30, dd30, m030, m130, m230, m330, m530, xL30, rb30⟩, sa30, eC30, tC30, kC30⟩, ai30, ti30, nb30, F30, b30, PySem.W.mg_of X G aC30, ⟨ga30, gg30, eC30, hC30⟩, PySem.W.exm_ref eC30 hC30 tC30 ss30⟩, x_BadWord := ⟨C31, q31, PySem.W.mg_of X G aC31, kC31, eC31, tC31, PySem.W.exm_ref eC31 hC31 tC31 ss31⟩, b_all := PySem.W.mg_none_of X G z_all, b_bool := PySem.W.mg_none_of X G z_bool, b_enumerate := PySem.W.mg_none_of X G z_enumerate, b_int := PySem.W.mg_none_of X G z_int, b_isinstance := PySem.W.mg_none_of X G z_isinstance, b_len := PySem.W.mg_none_of X G z_len, b_list := PySem.W.mg_none_of X G z_list, b_max := PySem.W.mg_none_of X G z_max, b_min := PySem.W.mg_none_of X G z_min, b_range := PySem.W.mg_none_of X G z_range, b_tuple := PySem.W.mg_none_of X G z_tuple, t_MOST_TRACKS := t_MOST_TRACKS, g_MOST_TRACKS := PySem.W.mg_of X G g_MOST_TRACKS, p_POWERS := p_POWERS, g_POWERS := PySem.W.mg_of X G g_POWERS, w_POWERS := sqt_lit l_POWERS (by show 5 ≤ sizeLine; rw [sizeLine_eq]; decide) (.cons ⟨_, rfl⟩ (.cons ⟨_, rfl⟩ (.cons ⟨_, rfl⟩ (.cons ⟨_, rfl⟩ (.cons ⟨_, rfl⟩ .nil))))), no10 := PySem.W.exm_ref eC30 hC30 tC30 no10 } hcase⟩
end K66

open PySem PySem.W PyProof.Rows in
set_option maxRecDepth 100000 in
set_option maxHeartbeats 0 in
theorem PySem.Challenge.cw_wordplays_k66_machines_and_breakers_holds : PySem.Challenge.rw_wordplays_k66_machines_and_breakers.Holds := by
  w_on; o_law; k_head; (case hw => w_witness2)
  k_fill
  refine VC.walk (l := PySem.Challenge.rw_wordplays_k66_machines_and_breakers) 9 ⟨rfl, by decide, by decide⟩ rfl rfl (fun w h Y => PySem.W.kIn_of Y) ?F
  case F =>
    intro w mg fa h KX G hmg
    refine' K66.all_mk KX G hmg ?a0 ?l0 ?c0 ?k0 ?a1 ?l1 ?c1 ?k1 ?a2 ?l2 ?c2 ?k2 ?a3 ?l3 ?c3 ?k3 ?a4 ?l4 ?c4 ?k4 ?a5 ?l5 ?c5 ?k5 ?a6 ?l6 ?c6 ?k6 ?a7 ?l7 ?c7 ?k7 ?a8 ?l8 ?c8 ?k8 ?a9 ?l9 ?c9 ?k9 ?a10 ?l10 ?c10 ?k10 ?a11 ?l11 ?c11 ?k11 ?a12 ?l12 ?c12 ?k12 ?a13 ?l13 ?c13 ?k13 ?a14 ?l14 ?c14 ?k14 ?a15 ?l15 ?c15 ?k15 ?a16 ?l16 ?c16 ?k16 ?a17 ?l17 ?c17 ?k17 ?a18 ?l18 ?c18 ?k18 ?a19 ?l19 ?c19 ?k19 ?a20 ?l20 ?c20 ?k20 ?a21 ?l21 ?c21 ?k21 ?a22 ?l22 ?c22 ?k22 ?a23 ?l23 ?c23 ?k23 ?a24 ?l24 ?c24 ?k24 ?a25 ?l25 ?c25 ?k25 ?a26 ?l26 ?c26 ?k26 ?a27 ?l27 ?c27 ?k27 ?a28 ?l28 ?c28 ?k28 ?a29 ?l29 ?c29 ?k29 ?aC30 ?xL30 ?rb30 ?sa30 ?ga30 ?gg30 ?nb30 ?ai30 ?ti30 ?l30 ?c30 ?k30 ?kC30 ?eC30 ?tC30 ?hC30 ?ss30 ?aC31 ?q31 ?kC31 ?eC31 ?tC31 ?hC31 ?ss31 ?z_all ?z_bool ?z_enumerate ?z_int ?z_isinstance ?z_len ?z_list ?z_max ?z_min ?z_range ?z_tuple ?g_MOST_TRACKS ?g_POWERS ?l_POWERS ?no10 ?hcase
    (case a0 => first | k_is | k_exc | decide +kernel | rfl)
    (case l0 => first | k_is | k_exc | decide +kernel | rfl)
    (case c0 => first | k_is | k_exc | decide +kernel | rfl)
    (case k0 => first | k_is | k_exc | decide +kernel | rfl)
    (case a1 => first | k_is | k_exc | decide +kernel | rfl)
    (case l1 => first | k_is | k_exc | decide +kernel | rfl)
    (case c1 => first | k_is | k_exc | decide +kernel | rfl)
    (case k1 => first | k_is | k_exc | decide +kernel | rfl)
    (case a2 => first | k_is | k_exc | decide +kernel | rfl)
    (case l2 => first | k_is | k_exc | decide +kernel | rfl)
    (case c2 => first | k_is | k_exc | decide +kernel | rfl)
    (case k2 => first | k_is | k_exc | decide +kernel | rfl)
    (case a3 => first | k_is | k_exc | decide +kernel | rfl)
    (case l3 => first | k_is | k_exc | decide +kernel | rfl)
    (case c3 => first | k_is | k_exc | decide +kernel | rfl)
    (case k3 => first | k_is | k_exc | decide +kernel | rfl)
    (case a4 => first | k_is | k_exc | decide +kernel | rfl)
    (case l4 => first | k_is | k_exc | decide +kernel | rfl)
    (case c4 => first | k_is | k_exc | decide +kernel | rfl)
    (case k4 => first | k_is | k_exc | decide +kernel | rfl)
    (case a5 => first | k_is | k_exc | decide +kernel | rfl)
    (case l5 => first | k_is | k_exc | decide +kernel | rfl)
    (case c5 => first | k_is | k_exc | decide +kernel | rfl)
    (case k5 => first | k_is | k_exc | decide +kernel | rfl)
    (case a6 => first | k_is | k_exc | decide +kernel | rfl)
    (case l6 => first | k_is | k_exc | decide +kernel | rfl)
    (case c6 => first | k_is | k_exc | decide +kernel | rfl)
    (case k6 => first | k_is | k_exc | decide +kernel | rfl)
    (case a7 => first | k_is | k_exc | decide +kernel | rfl)
    (case l7 => first | k_is | k_exc | decide +kernel | rfl)
    (case c7 => first | k_is | k_exc | decide +kernel | rfl)
    (case k7 => first | k_is | k_exc | decide +kernel | rfl)
    (case a8 => first | k_is | k_exc | decide +kernel | rfl)
    (case l8 => first | k_is | k_exc | decide +kernel | rfl)
    (case c8 => first | k_is | k_exc | decide +kernel | rfl)
    (case k8 => first | k_is | k_exc | decide +kernel | rfl)
    (case a9 => first | k_is | k_exc | decide +kernel | rfl)
    (case l9 => first | k_is | k_exc | decide +kernel | rfl)
    (case c9 => first | k_is | k_exc | decide +kernel | rfl)
    (case k9 => first | k_is | k_exc | decide +kernel | rfl)
    (case a10 => first | k_is | k_exc | decide +kernel | rfl)
    (case l10 => first | k_is | k_exc | decide +kernel | rfl)
    (case c10 => first | k_is | k_exc | decide +kernel | rfl)
    (case k10 => first | k_is | k_exc | decide +kernel | rfl)
    (case a11 => first | k_is | k_exc | decide +kernel | rfl)
    (case l11 => first | k_is | k_exc | decide +kernel | rfl)
    (case c11 => first | k_is | k_exc | decide +kernel | rfl)
    (case k11 => first | k_is | k_exc | decide +kernel | rfl)
    (case a12 => first | k_is | k_exc | decide +kernel | rfl)
    (case l12 => first | k_is | k_exc | decide +kernel | rfl)
    (case c12 => first | k_is | k_exc | decide +kernel | rfl)
    (case k12 => first | k_is | k_exc | decide +kernel | rfl)
    (case a13 => first | k_is | k_exc | decide +kernel | rfl)
    (case l13 => first | k_is | k_exc | decide +kernel | rfl)
    (case c13 => first | k_is | k_exc | decide +kernel | rfl)
    (case k13 => first | k_is | k_exc | decide +kernel | rfl)
    (case a14 => first | k_is | k_exc | decide +kernel | rfl)
    (case l14 => first | k_is | k_exc | decide +kernel | rfl)
    (case c14 => first | k_is | k_exc | decide +kernel | rfl)
    (case k14 => first | k_is | k_exc | decide +kernel | rfl)
    (case a15 => first | k_is | k_exc | decide +kernel | rfl)
    (case l15 => first | k_is | k_exc | decide +kernel | rfl)
    (case c15 => first | k_is | k_exc | decide +kernel | rfl)
    (case k15 => first | k_is | k_exc | decide +kernel | rfl)
    (case a16 => first | k_is | k_exc | decide +kernel | rfl)
    (case l16 => first | k_is | k_exc | decide +kernel | rfl)
    (case c16 => first | k_is | k_exc | decide +kernel | rfl)
    (case k16 => first | k_is | k_exc | decide +kernel | rfl)
    (case a17 => first | k_is | k_exc | decide +kernel | rfl)
    (case l17 => first | k_is | k_exc | decide +kernel | rfl)
    (case c17 => first | k_is | k_exc | decide +kernel | rfl)
    (case k17 => first | k_is | k_exc | decide +kernel | rfl)
    (case a18 => first | k_is | k_exc | decide +kernel | rfl)
    (case l18 => first | k_is | k_exc | decide +kernel | rfl)
    (case c18 => first | k_is | k_exc | decide +kernel | rfl)
    (case k18 => first | k_is | k_exc | decide +kernel | rfl)
    (case a19 => first | k_is | k_exc | decide +kernel | rfl)
    (case l19 => first | k_is | k_exc | decide +kernel | rfl)
    (case c19 => first | k_is | k_exc | decide +kernel | rfl)
    (case k19 => first | k_is | k_exc | decide +kernel | rfl)
    (case a20 => first | k_is | k_exc | decide +kernel | rfl)
    (case l20 => first | k_is | k_exc | decide +kernel | rfl)
    (case c20 => first | k_is | k_exc | decide +kernel | rfl)
    (case k20 => first | k_is | k_exc | decide +kernel | rfl)
    (case a21 => first | k_is | k_exc | decide +kernel | rfl)
    (case l21 => first | k_is | k_exc | decide +kernel | rfl)
    (case c21 => first | k_is | k_exc | decide +kernel | rfl)
    (case k21 => first | k_is | k_exc | decide +kernel | rfl)
    (case a22 => first | k_is | k_exc | decide +kernel | rfl)
    (case l22 => first | k_is | k_exc | decide +kernel | rfl)
    (case c22 => first | k_is | k_exc | decide +kernel | rfl)
    (case k22 => first | k_is | k_exc | decide +kernel | rfl)
    (case a23 => first | k_is | k_exc | decide +kernel | rfl)
    (case l23 => first | k_is | k_exc | decide +kernel | rfl)
    (case c23 => first | k_is | k_exc | decide +kernel | rfl)
    (case k23 => first | k_is | k_exc | decide +kernel | rfl)
    (case a24 => first | k_is | k_exc | decide +kernel | rfl)
    (case l24 => first | k_is | k_exc | decide +kernel | rfl)
    (case c24 => first | k_is | k_exc | decide +kernel | rfl)
    (case k24 => first | k_is | k_exc | decide +kernel | rfl)
    (case a25 => first | k_is | k_exc | decide +kernel | rfl)
    (case l25 => first | k_is | k_exc | decide +kernel | rfl)
    (case c25 => first | k_is | k_exc | decide +kernel | rfl)
    (case k25 => first | k_is | k_exc | decide +kernel | rfl)
    (case a26 => first | k_is | k_exc | decide +kernel | rfl)
    (case l26 => first | k_is | k_exc | decide +kernel | rfl)
    (case c26 => first | k_is | k_exc | decide +kernel | rfl)
    (case k26 => first | k_is | k_exc | decide +kernel | rfl)
    (case a27 => first | k_is | k_exc | decide +kernel | rfl)
    (case l27 => first | k_is | k_exc | decide +kernel | rfl)
    (case c27 => first | k_is | k_exc | decide +kernel | rfl)
    (case k27 => first | k_is | k_exc | decide +kernel | rfl)
    (case a28 => first | k_is | k_exc | decide +kernel | rfl)
    (case l28 => first | k_is | k_exc | decide +kernel | rfl)
    (case c28 => first | k_is | k_exc | decide +kernel | rfl)
    (case k28 => first | k_is | k_exc | decide +kernel | rfl)
    (case a29 => first | k_is | k_exc | decide +kernel | rfl)
    (case l29 => first | k_is | k_exc | decide +kernel | rfl)
    (case c29 => first | k_is | k_exc | decide +kernel | rfl)
    (case k29 => first | k_is | k_exc | decide +kernel | rfl)
    (case aC30 => first | k_is | k_exc | decide +kernel | rfl)
    (case xL30 => first | k_is | k_exc | decide +kernel | rfl)
    (case rb30 => first | k_is | k_exc | decide +kernel | rfl)
    (case sa30 => first | k_is | k_exc | decide +kernel | rfl)
    (case ga30 => first | k_is | k_exc | decide +kernel | rfl)
    (case gg30 => first | k_is | k_exc | decide +kernel | rfl)
    (case nb30 => first | k_is | k_exc | decide +kernel | rfl)
    (case ai30 => first | k_is | k_exc | decide +kernel | rfl)
    (case ti30 => first | k_is | k_exc | decide +kernel | rfl)
    (case l30 => first | k_is | k_exc | decide +kernel | rfl)
    (case c30 => first | k_is | k_exc | decide +kernel | rfl)
    (case k30 => first | k_is | k_exc | decide +kernel | rfl)
    (case kC30 => first | k_is | k_exc | decide +kernel | rfl)
    (case eC30 => first | k_is | k_exc | decide +kernel | rfl)
    (case tC30 => first | k_is | k_exc | decide +kernel | rfl)
    (case hC30 => first | k_is | k_exc | decide +kernel | rfl)
    (case ss30 => first | k_is | k_exc | decide +kernel | rfl)
    (case aC31 => first | k_is | k_exc | decide +kernel | rfl)
    (case q31 => first | k_is | k_exc | decide +kernel | rfl)
    (case kC31 => first | k_is | k_exc | decide +kernel | rfl)
    (case eC31 => first | k_is | k_exc | decide +kernel | rfl)
    (case tC31 => first | k_is | k_exc | decide +kernel | rfl)
    (case hC31 => first | k_is | k_exc | decide +kernel | rfl)
    (case ss31 => first | k_is | k_exc | decide +kernel | rfl)
    (case z_all => first | k_is | k_exc | decide +kernel | rfl)
    (case z_bool => first | k_is | k_exc | decide +kernel | rfl)
    (case z_enumerate => first | k_is | k_exc | decide +kernel | rfl)
    (case z_int => first | k_is | k_exc | decide +kernel | rfl)
    (case z_isinstance => first | k_is | k_exc | decide +kernel | rfl)
    (case z_len => first | k_is | k_exc | decide +kernel | rfl)
    (case z_list => first | k_is | k_exc | decide +kernel | rfl)
    (case z_max => first | k_is | k_exc | decide +kernel | rfl)
    (case z_min => first | k_is | k_exc | decide +kernel | rfl)
    (case z_range => first | k_is | k_exc | decide +kernel | rfl)
    (case z_tuple => first | k_is | k_exc | decide +kernel | rfl)
    (case g_MOST_TRACKS => first | k_is | k_exc | decide +kernel | rfl)
    (case g_POWERS => first | k_is | k_exc | decide +kernel | rfl)
    (case l_POWERS => first | k_is | k_exc | decide +kernel | rfl)
    (case no10 => first | k_is | k_exc | decide +kernel | rfl)
    (case hcase => exact K66.case_ok)
